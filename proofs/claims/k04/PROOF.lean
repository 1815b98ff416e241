import PyProof.Rows.All
import Wide.All
import OpenK.AllK
import Wide.FinOn
import HandS.ForMost
import HandS.Walk
import HandS.Conv
import HandS.TupAny
import HandS.Zip
import HandS.IsInst
import HandS.Wide
import HandS.TupMul
import KE.DataEq
import HandS.Style
import HandS.Ends
import KE.SortUse
import KE.DataMinMax
import KE.SortData
import HandS.Deep
import KE.SortCalls
import HandS.TupSets
import HandS.SetFor
import HandS.Strs
import KE.GoesMore
import PyProof.EnumMake
import HandS.DictComp
import HandS.WordsDict
import KE.KRevSl
import PyProof.Rows.CallKwBuiltin
import PySem.Challenge.RW_rootparts_k04_parts_recognized
set_option Elab.async false
set_option linter.all false
set_option autoImplicit false
set_option maxRecDepth 100000
namespace Dl
open PySem L2

abbrev D := PyData

/-! ### tuples whose object is known -/
/-- a plain tuple's object: nothing hangs on it -/
def Ob (o : Obj) : Prop := o.cls = .type "tuple" ∧ o.dict = none
def Tu (G : Hp) (p : Addr) (vs : List V) : Prop := ∃ o, Ob o ∧ G p = some (.frz o (.tup vs))
theorem Tu.mono {G G' : Hp} {p : Addr} {vs : List V} (h : Tu G p vs) (e : Same G G') : Tu G' p vs := by
  obtain ⟨o, ho, h⟩ := h
  exact ⟨o, ho, e _ _ h⟩
theorem Tu.sq {K : PySem.W.Frag} {G : Hp} {p : Addr} {vs : List V} (h : Tu G p vs) : SqT K G p vs := by
  obtain ⟨o, _, h⟩ := h
  exact .inl (.inr ⟨o, h⟩)
theorem Tu.new {H : Hp} {p : Addr} {o : Obj} {vs : List V} (ho : Ob o) : Tu (upd H p (.frz o (.tup vs))) p vs := ⟨o, ho, upd_same⟩
theorem Tu.one {G : Hp} {p : Addr} {vs ws : List V} (h : Tu G p vs) (k : Tu G p ws) : vs = ws := by
  obtain ⟨o, _, h⟩ := h
  obtain ⟨u, _, k⟩ := k
  rw [h] at k
  cases k
  rfl

/-! ### what stands for a datum -/
mutual
inductive Rp (G : Hp) : V → D → Prop
  | non : Rp G .non .none
  | bl (b : Bool) : Rp G (.bl b) (.bool b)
  | int (i : Int) : Rp G (.int i) (.int i)
  | str (z : Str) : Rp G (.str z) (.str z)
  | lst {p : Addr} {vs : List V} {ds : List D} : G p = some (.lst vs) → RpL G vs ds → Rp G (.ref p) (.list ds)
  | tup {p : Addr} {vs : List V} {ds : List D} : Tu G p vs → RpL G vs ds → Rp G (.ref p) (.tuple ds)
  | dic {p : Addr} : G p = some (.dK []) → Rp G (.ref p) (.dict [])
inductive RpL (G : Hp) : List V → List D → Prop
  | nil : RpL G [] []
  | cons {v : V} {vs : List V} {d : D} {ds : List D} : Rp G v d → RpL G vs ds → RpL G (v :: vs) (d :: ds)
end
mutual
theorem Rp.mono {G G' : Hp} (e : Same G G') : ∀ {d : D} {v : V}, Rp G v d → Rp G' v d
  | .none, _, h => by cases h; exact .non
  | .bool _, _, h => by cases h; exact .bl _
  | .int _, _, h => by cases h; exact .int _
  | .str _, _, h => by cases h; exact .str _
  | .list _, _, h => by
    cases h with
    | lst h r => exact .lst (e _ _ h) (RpL.mono e r)
  | .tuple _, _, h => by
    cases h with
    | tup h r => exact .tup (h.mono e) (RpL.mono e r)
  | .dict _, _, h => by
    cases h with
    | dic h => exact .dic (e _ _ h)
theorem RpL.mono {G G' : Hp} (e : Same G G') : ∀ {ds : List D} {vs : List V}, RpL G vs ds → RpL G' vs ds
  | [], _, h => by cases h; exact .nil
  | _ :: _, _, h => by
    cases h with
    | cons a b => exact .cons (Rp.mono e a) (RpL.mono e b)
end
mutual
def imm : D → Bool
  | .list _ => false
  | .dict _ => false
  | .tuple ds => immL ds
  | _ => true
def immL : List D → Bool
  | [] => true
  | d :: ds => imm d && immL ds
end
theorem immL_iff : ∀ {ds : List D}, immL ds = true ↔ ∀ d ∈ ds, imm d = true
  | [] => by simp [immL]
  | d :: ds => by simp [immL, immL_iff (ds := ds)]
mutual
theorem Rp.keep {G G' : Hp} (e : ∀ p vs, Tu G p vs → Tu G' p vs) : ∀ {d : D} {v : V}, imm d = true → Rp G v d → Rp G' v d
  | .none, _, _, h => by cases h; exact .non
  | .bool _, _, _, h => by cases h; exact .bl _
  | .int _, _, _, h => by cases h; exact .int _
  | .str _, _, _, h => by cases h; exact .str _
  | .list _, _, i, h => by simp [imm] at i
  | .tuple _, _, i, h => by
    cases h with
    | tup h r => exact .tup (e _ _ h) (RpL.keep e (by simpa [imm] using i) r)
  | .dict _, _, i, h => by simp [imm] at i
theorem RpL.keep {G G' : Hp} (e : ∀ p vs, Tu G p vs → Tu G' p vs) : ∀ {ds : List D} {vs : List V}, immL ds = true → RpL G vs ds → RpL G' vs ds
  | [], _, _, h => by cases h; exact .nil
  | _ :: _, _, i, h => by
    cases h with
    | cons a b =>
      simp only [immL, Bool.and_eq_true] at i
      exact .cons (Rp.keep e i.1 a) (RpL.keep e i.2 b)
end
theorem RpL.length {G : Hp} : ∀ {ds : List D} {vs : List V}, RpL G vs ds → vs.length = ds.length
  | [], _, h => by cases h; rfl
  | _ :: _, _, h => by
    cases h with
    | cons _ b => simp [RpL.length b]
theorem RpL.get {G : Hp} : ∀ {ds : List D} {vs : List V} {i : Nat} {d : D}, RpL G vs ds → ds[i]? = some d → ∃ v, vs[i]? = some v ∧ Rp G v d
  | [], _, _, _, h, e => by simp at e
  | _ :: _, _, 0, _, h, e => by
    cases h with
    | cons a b => simp at e; subst e; exact ⟨_, rfl, a⟩
  | _ :: _, _, i + 1, _, h, e => by
    cases h with
    | cons a b =>
      obtain ⟨v, h1, h2⟩ := RpL.get (i := i) b (by simpa using e)
      exact ⟨v, by simpa using h1, h2⟩
theorem RpL.getV {G : Hp} : ∀ {ds : List D} {vs : List V} {i : Nat} {v : V}, RpL G vs ds → vs[i]? = some v → ∃ d, ds[i]? = some d ∧ Rp G v d
  | [], _, _, _, h, e => by cases h; simp at e
  | _ :: _, _, 0, _, h, e => by
    cases h with
    | cons a b => simp at e; subst e; exact ⟨_, rfl, a⟩
  | _ :: _, _, i + 1, _, h, e => by
    cases h with
    | cons a b =>
      obtain ⟨v, h1, h2⟩ := RpL.getV (i := i) b (by simpa using e)
      exact ⟨v, by simpa using h1, h2⟩
theorem RpL.append {G : Hp} : ∀ {ds es : List D} {vs ws : List V}, RpL G vs ds → RpL G ws es → RpL G (vs ++ ws) (ds ++ es)
  | [], _, _, _, h, k => by cases h; exact k
  | _ :: _, _, _, _, h, k => by
    cases h with
    | cons a b => exact .cons a (RpL.append b k)
theorem RpL.take {G : Hp} : ∀ {ds : List D} {vs : List V} (n : Nat), RpL G vs ds → RpL G (vs.take n) (ds.take n)
  | _, _, 0, _ => .nil
  | [], _, _ + 1, h => by cases h; exact .nil
  | _ :: _, _, n + 1, h => by
    cases h with
    | cons a b => exact .cons a (RpL.take n b)
theorem RpL.drop {G : Hp} : ∀ {ds : List D} {vs : List V} (n : Nat), RpL G vs ds → RpL G (vs.drop n) (ds.drop n)
  | _, _, 0, h => h
  | [], _, _ + 1, h => by cases h; exact .nil
  | _ :: _, _, n + 1, h => by
    cases h with
    | cons a b => exact RpL.drop n b
theorem RpL.set {G : Hp} : ∀ {ds : List D} {vs : List V} (n : Nat) {d : D} {v : V}, RpL G vs ds → Rp G v d → RpL G (vs.set n v) (ds.set n d)
  | [], _, _, _, _, h, _ => by cases h; exact .nil
  | _ :: _, _, 0, _, _, h, k => by
    cases h with
    | cons a b => exact .cons k b
  | _ :: _, _, n + 1, _, _, h, k => by
    cases h with
    | cons a b => exact .cons a (RpL.set n b k)
theorem RpL.eraseIdx {G : Hp} : ∀ {ds : List D} {vs : List V} (n : Nat), RpL G vs ds → RpL G (vs.eraseIdx n) (ds.eraseIdx n)
  | [], _, _, h => by cases h; exact .nil
  | _ :: _, _, 0, h => by
    cases h with
    | cons a b => exact b
  | _ :: _, _, n + 1, h => by
    cases h with
    | cons a b => exact .cons a (RpL.eraseIdx n b)
theorem RpL.ints {G : Hp} : ∀ {ns : List Int} {vs : List V}, RpL G vs (ns.map PyData.int) → vs = ns.map V.int
  | [], _, h => by cases h; rfl
  | n :: ns, _, h => by
    cases h with
    | cons a b => cases a; rw [RpL.ints b]; rfl
theorem RpL.ofInts {G : Hp} : ∀ {ns : List Int}, RpL G (ns.map V.int) (ns.map PyData.int)
  | [] => .nil
  | _ :: _ => .cons (.int _) RpL.ofInts

/-! ### cells, resources, growth -/
inductive Cell where
  | no
  | dat (d : D)
  | own (ds : List D)
  | raw (v : V)

/-- what else a def may turn: a pen. vol: its own addresses; S: what stays known; Dy: what it is after at most m draws -/
structure Res where
  vol : Addr → Prop
  S : Hp → Prop
  Dy : Hp → Nat → Prop
  sm : ∀ {G G' : Hp}, Same G G' → S G → S G'
  dm : ∀ {H H' : Hp} {m : Nat}, (∀ a, vol a → H' a = H a) → Dy H m → Dy H' m
  /-- the heap at the def's entry -/
  ent : Hp
def Res.pure (ent : Hp) : Res := ⟨fun _ => False, fun _ => True, fun _ _ => True, fun _ _ => trivial, fun _ _ => trivial, ent⟩

structure Grow (vol : Addr → Prop) (G H G' H' : Hp) : Prop where
  gg : Same G G'
  hh : ∀ a o, ¬ vol a → H a = some o → H' a = some o
  new : ∀ a, G a = none → H a ≠ none → G' a = none
theorem Grow.refl (vol : Addr → Prop) (G H : Hp) : Grow vol G H G H := ⟨Same.refl _, fun _ _ _ h => h, fun _ h _ => h⟩
theorem Grow.trans {vol : Addr → Prop} {G H G1 H1 G2 H2 : Hp} (a : Grow vol G H G1 H1) (hv : ∀ x, vol x → H1 x ≠ none) (b : Grow vol G1 H1 G2 H2) : Grow vol G H G2 H2 :=
  ⟨a.gg.trans b.gg, fun x o n h => b.hh x o n (a.hh x o n h), fun x g h => b.new x (a.new x g h) (by
    by_cases v : vol x
    · exact hv x v
    · cases e : H x with
      | none => exact absurd e h
      | some o => rw [a.hh x o v e]; exact fun z => by cases z)⟩

def CellR (R : Res) (G H : Hp) (o : Option (Option V)) : Cell → Prop
  | .no => True
  | .dat d => ∃ v, o = some (some v) ∧ Rp G v d
  | .raw v => o = some (some v)
  | .own ds => ∃ l vs, o = some (some (.ref l)) ∧ G l = none ∧ ¬ R.vol l ∧ R.ent l = none ∧ H l = some (.lst vs) ∧ RpL G vs ds

/-- the heaps are in order -/
structure Sat (R : Res) (G H : Hp) (m : Nat) : Prop where
  gh : Same G H
  vg : ∀ a, R.vol a → G a = none
  vh : ∀ a, R.vol a → H a ≠ none
  js : R.S G
  jd : R.Dy H m
  en : ∀ p, H p = none → R.ent p = none
/-- the slots σ hold the cells ρ -/
structure Sit (R : Res) (σ : L2.St) (ρ : List Cell) (G H : Hp) (m : Nat) : Prop extends Sat R G H m where
  len : σ.length = ρ.length
  cell : ∀ (i : Nat) (c : Cell), ρ[i]? = some c → CellR R G H σ[i]? c
  apart : ∀ (i j : Nat) (ds es : List D) (l : Addr), ρ[i]? = some (.own ds) → ρ[j]? = some (.own es) → σ[i]? = some (some (.ref l)) → σ[j]? = some (some (.ref l)) → i = j

section
variable {R : Res} {σ : L2.St} {ρ : List Cell} {G H G' H' : Hp} {m m' : Nat}
theorem CellR.grow {o : Option (Option V)} {c : Cell} (g : Grow R.vol G H G' H') (h : CellR R G H o c) : CellR R G' H' o c := by
  cases c with
  | no => trivial
  | dat d => obtain ⟨v, e, r⟩ := h; exact ⟨v, e, r.mono g.gg⟩
  | raw v => exact h
  | own ds =>
    obtain ⟨l, vs, e, n, nv, en, hl, r⟩ := h
    exact ⟨l, vs, e, g.new l n (by rw [hl]; exact fun z => by cases z), nv, en, g.hh l _ nv hl, r.mono g.gg⟩
theorem free_of {vol : Addr → Prop} {G H G' H' : Hp} {p : Addr} (g : Grow vol G H G' H') (hv : ∀ a, vol a → H' a ≠ none) (hp : H' p = none) : H p = none := by
  cases e : H p with
  | none => rfl
  | some o =>
    by_cases v : vol p
    · exact absurd hp (hv p v)
    · rw [g.hh p o v e] at hp; cases hp
theorem Sat.grow (S : Sat R G H m) (g : Grow R.vol G H G' H') (gh : Same G' H') (vh : ∀ a, R.vol a → H' a ≠ none) (jd : R.Dy H' m') : Sat R G' H' m' :=
  ⟨gh, fun a v => g.new a (S.vg a v) (S.vh a v), vh, R.sm g.gg S.js, jd, fun p h => S.en p (free_of g vh h)⟩
theorem Sit.grow (S : Sit R σ ρ G H m) (g : Grow R.vol G H G' H') (gh : Same G' H') (vh : ∀ a, R.vol a → H' a ≠ none) (jd : R.Dy H' m') : Sit R σ ρ G' H' m' :=
  ⟨S.toSat.grow g gh vh jd, S.len, fun i c h => (S.cell i c h).grow g, S.apart⟩
/-- the volatile stand as they stood -/
theorem Sit.growS (S : Sit R σ ρ G H m) (g : Grow (fun _ => False) G H G' H') (gh : Same G' H') : Sit R σ ρ G' H' m ∧ Grow R.vol G H G' H' := by
  have hs : ∀ a o, H a = some o → H' a = some o := fun a o h => g.hh a o (fun z => z) h
  have e : ∀ a, R.vol a → H' a = H a := fun a v => by
    cases q : H a with
    | none => exact absurd q (S.vh a v)
    | some o => exact hs a o q
  have g' : Grow R.vol G H G' H' := ⟨g.gg, fun a o _ h => hs a o h, g.new⟩
  exact ⟨S.grow g' gh (fun a v => by rw [e a v]; exact S.vh a v) (R.dm e S.jd), g'⟩
/-- a new object that all may know -/
theorem grow_new {p : Addr} (gh : Same G H) (hp : H p = none) (o : HO) : Grow (fun _ => False) G H (upd G p o) (upd H p o) ∧ Same (upd G p o) (upd H p o) := by
  have gp : G p = none := gh.free hp
  refine ⟨⟨fun a u h => by rw [upd_ne (ne_of_none h gp)]; exact h, fun a u _ h => by rw [upd_ne (ne_of_none h hp)]; exact h, fun a g h => ?_⟩, fun a u h => ?_⟩
  · by_cases e : a = p
    · subst e; exact absurd hp h
    · rw [upd_ne e]; exact g
  · by_cases e : a = p
    · subst e; rw [upd_same] at h ⊢; exact h
    · rw [upd_ne e] at h ⊢; exact gh a u h
/-- a new object of one's own -/
theorem grow_own {p : Addr} (gh : Same G H) (hp : H p = none) (o : HO) : Grow (fun _ => False) G H G (upd H p o) ∧ Same G (upd H p o) := by
  have gp : G p = none := gh.free hp
  exact ⟨⟨Same.refl _, fun a u _ h => by rw [upd_ne (ne_of_none h hp)]; exact h, fun a g _ => g⟩, fun a u h => by rw [upd_ne (ne_of_none h gp)]; exact gh a u h⟩
/-- what is one's own becomes known -/
theorem grow_share {p : Addr} {o : HO} (gh : Same G H) (gp : G p = none) (hp : H p = some o) : Same G (upd G p o) ∧ Same (upd G p o) H := by
  refine ⟨fun a u h => by rw [upd_ne (ne_of_none h gp)]; exact h, fun a u h => ?_⟩
  by_cases e : a = p
  · subst e; rw [upd_same] at h; rw [hp]; exact h
  · rw [upd_ne e] at h; exact gh a u h
theorem Sit.ownT (S : Sit R σ ρ G H m) {i : Nat} {ds : List D} (h : ρ[i]? = some (.own ds)) : ∃ l vs, σ[i]? = some (some (.ref l)) ∧ G l = none ∧ ¬ R.vol l ∧ R.ent l = none ∧ H l = some (.lst vs) ∧ RpL G vs ds := S.cell i _ h
end

/-! ### meanings -/
abbrev M (α : Type) := (α → Nat → Prop) → Nat → Prop
def lift {α : Type} (o : Option α) : M α := fun q m => ∃ a, o = some a ∧ q a m
theorem lift_some {α : Type} (a : α) (q : α → Nat → Prop) (m : Nat) : lift (some a) q m = q a m := by
  apply propext
  constructor
  · rintro ⟨_, e, h⟩
    cases e
    exact h
  · exact fun h => ⟨a, rfl, h⟩
def Mb {α β : Type} (T : M α) (f : α → M β) : M β := fun q m => T (fun a m1 => f a q m1) m

/-- the reading of an expression that gives a datum -/
def tJ (R : Res) (ρ : List Cell) (T : M D) : TE := fun σ H Q => ∃ G m q, Sit R σ ρ G H m ∧ T q m ∧ ∀ v d G' H' m', Sit R σ ρ G' H' m' → Grow R.vol G H G' H' → Rp G' v d → q d m' → Q v H'
/-- .. a new list, nobody else's -/
def tL (R : Res) (ρ : List Cell) (T : M (List D)) : TE := fun σ H Q => ∃ G m q, Sit R σ ρ G H m ∧ T q m ∧ ∀ p vs ds G' H' m', Sit R σ ρ G' H' m' → Grow R.vol G H G' H' → H p = none → G' p = none → H' p = some (.lst vs) → RpL G' vs ds → q ds m' → Q (.ref p) H'
def tT (R : Res) (ρ : List Cell) (T : M Bool) : TT := fun σ H Q => ∃ G m q, Sit R σ ρ G H m ∧ T q m ∧ ∀ b G' H' m', Sit R σ ρ G' H' m' → Grow R.vol G H G' H' → q b m' → Q b H'
/-- n arguments -/
def tAs (R : Res) (ρ : List Cell) (n : Nat) (T : M (List D)) : TA := fun σ H Q => ∃ G m q, Sit R σ ρ G H m ∧ T q m ∧ ∀ vs ds G' H' m', Sit R σ ρ G' H' m' → Grow R.vol G H G' H' → RpL G' vs ds → ds.length = n → q ds m' → Q vs H'

def JM (X : Cx) (R : Res) (ρ : List Cell) (e : Expr) (T : M D) : Prop := PE X e (tJ R ρ T)
def JL (X : Cx) (R : Res) (ρ : List Cell) (e : Expr) (T : M (List D)) : Prop := PE X e (tL R ρ T)
def JT (X : Cx) (R : Res) (ρ : List Cell) (e : Expr) (T : M Bool) : Prop := PT X e (tT R ρ T)
def JA (X : Cx) (R : Res) (ρ : List Cell) (es : List Expr) (n : Nat) (T : M (List D)) : Prop := PA X es (tAs R ρ n T)

theorem PE.imp {X : Cx} {e : Expr} {t t' : TE} (h : PE X e t) (k : ∀ σ H Q, t' σ H Q → t σ H Q) : PE X e t' := ⟨fun pins s σ H Q I q => h.run pins s σ H Q I (k σ H Q q)⟩
theorem PT.imp {X : Cx} {e : Expr} {t t' : TT} (h : PT X e t) (k : ∀ σ H Q, t' σ H Q → t σ H Q) : PT X e t' := ⟨fun pins s σ H Q I q => h.run pins s σ H Q I (k σ H Q q)⟩
theorem PA.imp {X : Cx} {es : List Expr} {t t' : TA} (h : PA X es t) (k : ∀ σ H Q, t' σ H Q → t σ H Q) : PA X es t' := ⟨fun pos pins s σ H Q I q => h.run pos pins s σ H Q I (k σ H Q q)⟩

section
variable {X : Cx} {R : Res} {ρ : List Cell} {e a b : Expr} {pos : Pos}
theorem JM.imp {T T' : M D} (h : JM X R ρ e T) (k : ∀ q m, T' q m → T q m) : JM X R ρ e T' := PE.imp h fun _ _ _ ⟨G, m, q, S, t, c⟩ => ⟨G, m, q, S, k q m t, c⟩
theorem JT.imp {T T' : M Bool} (h : JT X R ρ e T) (k : ∀ q m, T' q m → T q m) : JT X R ρ e T' := PT.imp h fun _ _ _ ⟨G, m, q, S, t, c⟩ => ⟨G, m, q, S, k q m t, c⟩
theorem JL.imp {T T' : M (List D)} (h : JL X R ρ e T) (k : ∀ q m, T' q m → T q m) : JL X R ρ e T' := PE.imp h fun _ _ _ ⟨G, m, q, S, t, c⟩ => ⟨G, m, q, S, k q m t, c⟩
theorem JA.imp {es : List Expr} {n : Nat} {T T' : M (List D)} (h : JA X R ρ es n T) (k : ∀ q m, T' q m → T q m) : JA X R ρ es n T' := PA.imp h fun _ _ _ ⟨G, m, q, S, t, c⟩ => ⟨G, m, q, S, k q m t, c⟩

/-- a new list, shared -/
theorem JL.jm {T : M (List D)} (h : JL X R ρ e T) : JM X R ρ e (fun q => T fun ds => q (.list ds)) := by
  refine PE.imp h fun σ H Q ⟨G, m, q, S, t, c⟩ => ⟨G, m, _, S, t, fun p vs ds G' H' m' S' g hp gp hp' r hq => ?_⟩
  obtain ⟨g1, g2⟩ := grow_share S'.gh gp hp'
  have hvp : ¬ R.vol p := fun v => S.vh p v hp
  have g' : Grow R.vol G H (upd G' p (.lst vs)) H' := ⟨g.gg.trans g1, g.hh, fun x gx hx => by
    by_cases e : x = p
    · subst e; exact absurd hp hx
    · rw [upd_ne e]; exact g.new x gx hx⟩
  exact c _ _ _ _ m' (S.grow g' g2 S'.vh S'.jd) g' (.lst upd_same (r.mono g1)) hq

/-! ### names, constants -/
theorem jm_var (i : Nat) {x : Str} {d : D} (hρ : ρ[i]? = some (.dat d)) (hN : X.N[i]? = some x := by rfl) (hv : Vis X.env.scope x := by first | exact Or.inl rfl | exact Or.inr (Or.inl rfl) | exact Or.inr (Or.inr rfl)) (hd : (x == ("__debug__" : Str)) = false := by decide)
    (hcd : (x == ("__classdict__" : Str)) = false := by decide) : JM X R ρ (.Name x pos) (fun q m => q d m) := by
  refine PE.imp (pe_var (i := i) hN hv hd hcd) fun σ H Q ⟨G, m, q, S, t, c⟩ => ?_
  obtain ⟨v, e, r⟩ := S.cell i _ hρ
  exact ⟨v, e, c v d G H m S (Grow.refl _ _ _) r t⟩
theorem jm_int {i : Int} {j} : JM X R ρ (.Constant (.int i) j pos) (fun q m => q (.int i) m) := PE.imp pe_int fun _ H _ ⟨G, m, _, S, t, c⟩ => c _ _ G H m S (Grow.refl _ _ _) (.int i) t
theorem jm_bl {i : Bool} {j} : JM X R ρ (.Constant (.bool i) j pos) (fun q m => q (.bool i) m) := PE.imp pe_bl fun _ H _ ⟨G, m, _, S, t, c⟩ => c _ _ G H m S (Grow.refl _ _ _) (.bl i) t
theorem jm_non {j} : JM X R ρ (.Constant .none j pos) (fun q m => q .none m) := PE.imp pe_non fun _ H _ ⟨G, m, _, S, t, c⟩ => c _ _ G H m S (Grow.refl _ _ _) .non t
theorem jm_str {i : Str} {j} : JM X R ρ (.Constant (.str i) j pos) (fun q m => q (.str i) m) := PE.imp pe_str fun _ H _ ⟨G, m, _, S, t, c⟩ => c _ _ G H m S (Grow.refl _ _ _) (.str i) t

/-! ### operators by values -/
/-- an operation on values that makes no object: from data x, y (under C) the scalar g x y -/
def OpD (r : R2) (f : D → D → Option D) : Prop := ∀ (G H : Hp) (x y : V) (d e z : D) (Q : VK), Same G H → Rp G x d → Rp G y e → f d e = some z →
  (∀ v G' H', Grow (fun _ => False) G H G' H' → Same G' H' → Rp G' v z → Q v H') → r x y H Q
/-- .. in the data's own sequence -/
def op2 (f : D → D → Option D) (Ta Tb : M D) : M D := fun q m => Ta (fun x m1 => Tb (fun y m2 => lift (f x y) q m2) m1) m
theorem op_read {r : R2} {f : D → D → Option D} {Ta Tb : M D} (ho : OpD r f) (σ : L2.St) (H : Hp) (Q : VK) (h : tJ R ρ (op2 f Ta Tb) σ H Q) : tOp r (tJ R ρ Ta) (tJ R ρ Tb) σ H Q := by
  obtain ⟨G, m, q, S, t, c⟩ := h
  refine ⟨G, m, _, S, t, fun v d G1 H1 m1 S1 g1 r1 q1 => ⟨G1, m1, _, S1, q1, fun w e G2 H2 m2 S2 g2 r2 q2 => ?_⟩⟩
  obtain ⟨z, hz, q3⟩ := q2
  refine ho G2 H2 v w d e z Q S2.gh (r1.mono g2.gg) r2 hz fun u G3 H3 g3 s3 r3 => ?_
  obtain ⟨S3, g3'⟩ := S2.growS g3 s3
  exact c u z G3 H3 m2 S3 ((g1.trans S1.vh g2).trans S2.vh g3') r3 q3
theorem jm_op {op : Operator} {r : R2} {f : D → D → Option D} {Ta Tb : M D} (hr : OpR X (binaryOp op) r) (ho : OpD r f) (ha : JM X R ρ a Ta) (hb : JM X R ρ b Tb) : JM X R ρ (.BinOp a op b pos) (op2 f Ta Tb) :=
  PE.imp (pe_op hr ha hb) (op_read ho)
theorem jm_cmp {op : CmpOp} {r : R2} {f : D → D → Option D} {Ta Tb : M D} (hr : OpR X (compareOp op) r) (ho : OpD r f) (ha : JM X R ρ a Ta) (hb : JM X R ρ b Tb) (hm : behindInMarks op b = false) : JM X R ρ (.Compare a [op] [b] pos) (op2 f Ta Tb) :=
  PE.imp (pe_cmpR hr ha hb hm) (op_read ho)
theorem jm_ix {r : R2} {f : D → D → Option D} {Ta Tb : M D} (hr : IxR X r) (ho : OpD r f) (ha : JM X R ρ a Ta) (hb : JM X R ρ b Tb) (hs : PlainIx b) : JM X R ρ (.Subscript a b pos) (op2 f Ta Tb) :=
  PE.imp (pe_ix hr ha hb hs) (op_read ho)
end
end Dl

set_option Elab.async false
set_option linter.all false
set_option autoImplicit false
set_option maxRecDepth 100000
set_option maxHeartbeats 1000000
namespace Dl
open PySem L2 PySem.Spec PyProof.Rows
/-! ### a new tuple, its object known -/
theorem Tu.sqm {K : PySem.W.Frag} {G H : Hp} {p : Addr} {vs : List V} (h : Tu G p vs) (e : Same G H) : SqT K H p vs := (h.mono e).sq
theorem Tu.ok {P : Program} {w : World} {H : Hp} {h : Heap} {p : Addr} {vs : List V} (k : Tu H p vs) (x : HOk P w H h) : ObjOk P w H h p (.tup vs) := by
  obtain ⟨o, _, k⟩ := k
  exact Rd.ok (.inr ⟨o, k⟩) x
theorem Tu.key {P : Program} {w : World} {H : Hp} {h : Heap} {p : Addr} {ks : List Key} (k : Tu H p (ks.map kV)) (x : HOk P w H h) : (tupleKind (mixKind P w)).is h ks p := by
  obtain ⟨_, its, r, o, h1, h2, n, h3⟩ := k.ok x
  exact ⟨o, its.toArray, n, h1, h2, h3, by simpa using items_are r⟩
def NewT (H : Hp) (vs : List V) (Q : VK) : Prop := ∀ (p : Addr) (o : Obj), Ob o → H p = none → Q (.ref p) (upd H p (.frz o (.tup vs)))
section
variable {X : Cx} {pins : List (Addr × Obj)} {σ : L2.St} {H : Hp} {s : Shared} {Q : VK} {te : TE} {e a b : Expr} {pos p : Pos}
theorem new_tup {vs : List V} {its : List Value} (tk : Nat) (I : Inv X pins σ H s) (r : Vals vs its) (z : vs.length ≤ sizeLine) (q : NewT H vs Q) :
    EP X pins σ Q (.ref s.heap.objs.size) { s with heap := s.heap.push { cls := .type "tuple", data := .seq its.toArray }, toks := tk } :=
  ⟨.ref s.heap.objs.size, _, I.laid (t' := tk) (o := .frz { cls := .type "tuple", data := .seq its.toArray } (.tup vs)) (fun _ _ k => Heap.get?_push_of_some _ k) (Nat.le_refl _)
    ⟨Heap.get?_push_size _ rfl, z, its, r, IsTup.new _ _⟩, rfl, q _ _ ⟨rfl, rfl⟩ (I.hok.fresh (Nat.le_refl _))⟩
theorem pe_tupF {es : List Expr} {t : TA} {x1} (h : PA X es t) : PE X (.Tuple es x1 pos) (fun σ H Q => t σ H fun vs H1 => vs.length ≤ sizeLine ∧ NewT H1 vs Q) :=
  ⟨fun pins s σ H Q I hq => wpAny_Tuple_spliced (thn (h.run pos pins s σ H _ I hq) fun us s1 ⟨vs, H1, I1, r, z, q⟩ => ⟨by
    have := r.length
    omega, new_tup s1.toks I1 r z q⟩)⟩
/-- tuple(..) -/
def rTupF (K : PySem.W.Frag) : List V → Hp → VK → Prop := fun xs H Q => ∃ p ys, xs = [.ref p] ∧ ((SqL K H p ys ∧ NewT H ys Q) ∨ (SqT K H p ys ∧ Q (.ref p) H))
theorem call_tupF : CallR X (.type "tuple") (rTupF X.K) := by
  intro pins s σ H xs us Q I r h
  obtain ⟨p, ys, rfl, h⟩ := h
  obtain ⟨u, rfl, rx⟩ := vals1 r
  cases rx
  rcases h with ⟨hq, q⟩ | ⟨hq, q⟩
  · obtain ⟨its, rv, pl, hz⟩ := I.list hq
    have hl := rv.length
    refine call_tuple_list pl.isList (fun h' kp => ?_) (by rw [List.size_toArray]; omega)
    exact new_tup s.toks (I.kept (t' := s.toks) kp) rv hz q
  · exact call_tuple_of pins s σ H _ _ Q I r ⟨p, ys, rfl, .inr ⟨hq, q⟩⟩
/-- t + u -/
def rCatF (K : PySem.W.Frag) : R2 := fun x y H Q => ∃ a b xs ys, x = .ref a ∧ y = .ref b ∧ SqT K H a xs ∧ SqT K H b ys ∧ xs.length + ys.length ≤ sizeLine ∧
  (xs = [] → Q (.ref b) H) ∧ (xs ≠ [] → ys = [] → Q (.ref a) H) ∧ (xs ≠ [] → ys ≠ [] → NewT H (xs ++ ys) Q)
theorem op_catF : OpR X (binaryOp .Add) (rCatF X.K) := by
  intro pins s σ H x y v u Q I rx ry h
  obtain ⟨a, b, xs, ys, rfl, rfl, ha, hb, hz, q0, q1, q2⟩ := h
  by_cases hx : xs = []
  · exact op_catA pins s σ H _ _ v u Q I rx ry ⟨a, b, xs, ys, rfl, rfl, ha, hb, hz, q0, q1, fun n => absurd hx n⟩
  by_cases hy : ys = []
  · exact op_catA pins s σ H _ _ v u Q I rx ry ⟨a, b, xs, ys, rfl, rfl, ha, hb, hz, q0, q1, fun _ n => absurd hy n⟩
  cases rx
  cases ry
  obtain ⟨its, v1, p1, _⟩ := I.tuple ha
  obtain ⟨jts, v2, p2, _⟩ := I.tuple hb
  have l1 := v1.length
  have l2 := v2.length
  exact HT.cat_tup p1 p2 (fun z => hx (v1.nil_iff.mp z)) (fun z => absurd (v2.nil_iff.mp z) hy) (fun _ => new_tup s.toks I (v1.append v2) (by rw [List.length_append]; exact hz) (q2 hx hy)) (by omega)
/-- t[lo:hi] -/
def rSlF (K : PySem.W.Frag) : V → Option Int → Option Int → Hp → VK → Prop := fun x lo hi H Q => ∃ a xs, x = .ref a ∧ SqT K H a xs ∧
  (HT.sIx xs.length 0 lo = 0 ∧ HT.sIx xs.length xs.length hi = xs.length → Q (.ref a) H) ∧ (¬ (HT.sIx xs.length 0 lo = 0 ∧ HT.sIx xs.length xs.length hi = xs.length) → NewT H (cutV xs lo hi) Q)
theorem sl_tupF : SlR X (rSlF X.K) := by
  intro pins s σ H x v vl vu lo hi sl Q I rx hs pl pu h
  obtain ⟨a, xs, rfl, hx, q1, q2⟩ := h
  by_cases hw : HT.sIx xs.length 0 lo = 0 ∧ HT.sIx xs.length xs.length hi = xs.length
  · exact sl_tupA pins s σ H _ v vl vu lo hi sl Q I rx hs pl pu ⟨a, xs, rfl, hx, q1, fun n => absurd hw n⟩
  cases rx
  obtain ⟨its, rv, ht, hz⟩ := I.tuple hx
  have sz : its.toArray.size = xs.length := by
    rw [List.size_toArray, rv.length]
  refine ⟨"tuple", _, PyProof.Rows.slot_tuple_getitem.lookup, ht.typeIs, HT.getItem_tuple_cut ht hs pl pu (by rw [sz]; exact hw) ?_ (by rw [sz]; exact hz)⟩
  rw [sz]
  exact new_tup s.toks I ((rv.drop (HT.sIx xs.length 0 lo)).take (HT.sIx xs.length xs.length hi - HT.sIx xs.length 0 lo)) (Nat.le_trans (cutV_length xs lo hi) hz) (q2 hw)
/-- t * k -/
def rRepF (K : PySem.W.Frag) : R2 := fun x y H Q => ∃ l k xs, x = .ref l ∧ y = .int k ∧ SqT K H l xs ∧ xs ≠ [] ∧ 2 ≤ k ∧ k ≤ 1000 ∧ xs.length ≤ 1000 ∧ NewT H (List.replicate k.toNat xs).flatten Q
theorem op_repF : OpR X (binaryOp .Mult) (rRepF X.K) := by
  intro pins s σ H x y v u Q I rx ry h
  obtain ⟨l, k, xs, rfl, rfl, hT, hne, h1, h2, hz, q⟩ := h
  cases rx
  obtain ⟨t, rfl⟩ := ry
  obtain ⟨its, rv, ⟨⟨cls, dd, data, sl⟩, ho, hc, n, hd⟩, hs⟩ := I.tuple hT
  simp only at hc hd
  subst hc hd
  have le : its.length = xs.length := rv.length.symm
  have sz : its.toArray.size = xs.length := by rw [List.size_toArray, le]
  have emp : its.toArray.isEmpty = false := by
    cases its with
    | nil => exact absurd (List.eq_nil_of_length_eq_zero le.symm) hne
    | cons _ _ => rfl
  have prod : ((its.toArray.size : Nat) : Int) * k ≤ 1000000 := by
    rw [sz]
    have : ((xs.length : Nat) : Int) * k ≤ 1000 * k := Int.mul_le_mul_of_nonneg_right (by omega) (by omega)
    omega
  have few : k.toNat * xs.length ≤ 1000 * 1000 := Nat.mul_le_mul (by omega) hz
  have flen : (List.replicate k.toNat its).flatten.length ≤ sizeLine := by
    rw [PyProof.Rows.lm_len_rep_flat, le, sizeLine_eq]
    omega
  have vlen : (List.replicate k.toNat xs).flatten.length ≤ sizeLine := by
    rw [PyProof.Rows.lm_len_rep_flat, sizeLine_eq]
    omega
  refine wpAny_binaryOp_repeat_ref (T := "tuple") (U := "int") (by decide) ⟨_, ho, rfl⟩ (fun z => typeIs_int z k t) noFill_tuple_mul F.fills_int_mul F.slot_int_rmul repeat_tuple F.slot_int_index.lookup ?_
  refine call_meets F.slot_int_rmul (typeIs_int s k t) F.entry_int_rmul (F.args_int_rmul_2 _ _) (int_rmul_tuple k t l its.toArray n dd sl) ⟨ho, rfl, ⟨_, ho, rfl⟩, ?_⟩
  refine call_meets F.slot_tuple_mul ⟨_, ho, rfl⟩ F.entry_tuple_mul (F.args_tuple_mul_2 _ _) (tuple_mulW l its.toArray n dd sl k t ?_ ?_ ?_ (by omega) ?_ ?_) ⟨ho, ?_⟩
  · rw [decide_eq_false (show ¬ k < -(2 ^ 63) by omega), decide_eq_false (show ¬ k ≥ 2 ^ 63 by omega)] <;> rfl
  · rw [emp, Bool.false_or, beq_eq_false_iff_ne]
    omega
  · rw [emp, Bool.or_false, decide_eq_false_iff_not]
    omega
  · unfold Builtin.Tuple.tupleTooMany
    rw [sizeLine_eq, decide_eq_false_iff_not]
    omega
  · rw [size_rep, List.size_toArray]
    exact flen
  rw [size_rep]
  exact new_tup s.toks I (rv.rep k.toNat) vlen q
/-- tuple(range(..)) -/
def tTupRgF (te : L2.St → Hp → (Int → Int → Hp → Prop) → Prop) : TE := fun σ H Q => te σ H fun a b H1 => RgOk a b ∧ NewT H1 (rgV a b) Q
theorem pe_tupRgF {te : L2.St → Hp → (Int → Int → Hp → Prop) → Prop} (hc : X.calm = true) (hg : Gl X "tuple") (hm : X.mg "tuple" = none) (he : PRg X e te) (na : starEach [e] X.env = (false, eval e X.env) :: starEach [] X.env := by rfl) : PE X (.Call (.Name "tuple" p) [e] [] pos) (tTupRgF te) := by
  refine ⟨fun pins s σ H Q I h => Call_ (ld_blt I hg hm boot_tuple (PyProof.Rows.callWith_type1 (args_cons (thn (he pins s σ H _ I h) fun x s1 ⟨r, a, b, t, u, v, H1, ex, hr, I1, ok, q⟩ => args_nil ?_) na) na))⟩
  subst ex
  obtain ⟨b1, b2, b3, b4, b5⟩ := ok
  refine call_tuple_range (n := (b - a).toNat) (I1.ok.hd hc) hr (small_one b1 b2 b3 b4) (rangeSize_nat a b) b5 fun h' tk acc hk hi => ?_
  exact new_tup (s := { s1 with heap := h', toks := tk }) tk (I1.kept hk) (vals_rg hi) (by rw [rgV_length, sizeLine_eq]; omega) q
end
end Dl

set_option Elab.async false
set_option linter.all false
set_option autoImplicit false
set_option maxRecDepth 100000
set_option maxHeartbeats 1000000
namespace Dl
open PySem L2

/-! ### data to the library's own reading of data -/
mutual
theorem Rp.dp {K : PySem.W.Frag} {G : Hp} : ∀ {d : D} {v : V}, d.plain = true → Rp G v d → Dp K G v d
  | .none, _, _, h => by cases h; exact .non
  | .bool _, _, _, h => by cases h; exact .bl _
  | .int _, _, _, h => by cases h; exact .int _
  | .str _, _, _, h => by cases h; exact .str _
  | .list _, _, i, h => by
    cases h with
    | lst h r => exact .lst (SqL.of h) (RpL.dp (by simpa [PyData.plain] using i) r)
  | .tuple _, _, i, h => by
    cases h with
    | tup h r => exact .tup h.sq (RpL.dp (by simpa [PyData.plain] using i) r)
  | .dict _, _, i, h => by simp [PyData.plain] at i
theorem RpL.dp {K : PySem.W.Frag} {G : Hp} : ∀ {ds : List D} {vs : List V}, PyData.plainAll ds = true → RpL G vs ds → DpAll K G vs ds
  | [], _, _, h => by cases h; exact .nil
  | _ :: _, _, i, h => by
    cases h with
    | cons a b =>
      simp only [PyData.plainAll, Bool.and_eq_true] at i
      exact .cons (Rp.dp i.1 a) (RpL.dp i.2 b)
end
mutual
/-- how data stand in the raw heap, an empty dict within or not -/
theorem Rp.reads {X : Cx} {pins : List (Addr × Obj)} {σ : L2.St} {H : Hp} {s : Shared} (I : L2.Inv X pins σ H s) : ∀ {d : D} {v : V} {u : Value}, Rp H v d → RelV v u → ∃ as, Reads s.heap u d as
  | .none, _, _, h, r => by cases h; cases r; exact ⟨_, .none⟩
  | .bool b, _, _, h, r => by cases h; cases r; exact ⟨_, .bool b⟩
  | .int i, _, _, h, r => by
    cases h
    obtain ⟨t, rfl⟩ := r
    exact ⟨_, .int i t⟩
  | .str z, _, _, h, r => by
    cases h
    obtain ⟨t, rfl⟩ := r
    exact ⟨_, .str z t⟩
  | .list ds, _, _, h, r => by
    cases h with
    | @lst p vs _ hp q =>
      cases r
      obtain ⟨_, its, n, rv, ho⟩ := I.hok p _ hp
      obtain ⟨as, ra⟩ := RpL.reads I q rv
      exact ⟨p :: as, .list ho rfl rfl (by simpa using ra)⟩
  | .tuple ds, _, _, h, r => by
    cases h with
    | @tup p vs _ hp q =>
      cases r
      obtain ⟨_, its, rv, o, ho, hc, n, hd⟩ := hp.ok I.hok
      obtain ⟨as, ra⟩ := RpL.reads I q rv
      exact ⟨as, .tuple ho hc hd (by simpa using ra)⟩
  | .dict _, _, _, h, r => by
    cases h with
    | @dic p hp =>
      cases r
      obtain ⟨_, _, vs, rv, o, es, ep, ho, hx, hd, _, he, _⟩ := I.hok p _ hp
      cases rv
      have e0 : es.toList = [] := by
        generalize es.toList = l at he
        cases he
        rfl
      exact ⟨_, Reads.dict (h := s.heap) (kvs := []) (as := []) (bs := []) ho hx.1 hd (by rw [e0]; exact .nil) (by rw [e0]; exact .nil)⟩
theorem RpL.reads {X : Cx} {pins : List (Addr × Obj)} {σ : L2.St} {H : Hp} {s : Shared} (I : L2.Inv X pins σ H s) : ∀ {ds : List D} {vs : List V} {us : List Value}, RpL H vs ds → Vals vs us → ∃ as, ReadsAll s.heap us ds as
  | [], _, _, h, r => by cases h; cases r; exact ⟨_, .nil⟩
  | _ :: _, _, _, h, r => by
    cases h with
    | cons a b =>
      cases r with
      | cons r1 r2 =>
        obtain ⟨as, q1⟩ := Rp.reads I a r1
        obtain ⟨bs, q2⟩ := RpL.reads I b r2
        exact ⟨_, .cons q1 q2⟩
end

/-! ### meanings of operators -/
def intsOf : List D → Option (List Int)
  | [] => some []
  | .int i :: r => (intsOf r).map (i :: ·)
  | _ => none
theorem intsOf_eq : ∀ {ds : List D} {ns : List Int}, intsOf ds = some ns → ds = ns.map PyData.int
  | [], ns, h => by cases h; rfl
  | .int i :: r, ns, h => by
    simp only [intsOf, Option.map_eq_some_iff] at h
    obtain ⟨k, h1, rfl⟩ := h
    rw [intsOf_eq h1]; rfl
  | .none :: _, _, h => by cases h
  | .bool _ :: _, _, h => by cases h
  | .str _ :: _, _, h => by cases h
  | .list _ :: _, _, h => by cases h
  | .tuple _ :: _, _, h => by cases h
  | .dict _ :: _, _, h => by cases h
theorem intsOf_map : ∀ (ns : List Int), intsOf (ns.map PyData.int) = some ns
  | [] => rfl
  | n :: r => by simp [intsOf, intsOf_map r]
/-- any tuple and the empty one -/
def isE : D → D → Bool
  | .tuple _, .tuple [] => true
  | _, _ => false
def eqOk (d e : D) : Bool := (d.plain && e.plain && decide (min d.depth e.depth ≤ 64)) || isE d e
def dAdd : D → D → Option D
  | .int i, .int j => some (.int (i + j))
  | .tuple xs, .tuple ys => if xs.length + ys.length ≤ sizeLine then some (.tuple (xs ++ ys)) else none
  | .list xs, .list ys => if xs.length + ys.length ≤ sizeLine then some (.list (xs ++ ys)) else none
  | .str x, .str y => if x.length + y.length ≤ sizeLine then some (.str (x ++ y)) else none
  | _, _ => none
def dSub : D → D → Option D
  | .int i, .int j => some (.int (i - j))
  | _, _ => none
def dMul : D → D → Option D
  | .int i, .int j => if i.natAbs.log2 + j.natAbs.log2 < 1000000 then some (.int (i * j)) else none
  | _, _ => none
def dFdiv : D → D → Option D
  | .int i, .int j => if 0 < j ∧ j.natAbs.log2 < 9000 then some (.int (i / j)) else none
  | _, _ => none
def dMod : D → D → Option D
  | .int i, .int j => if 0 < j then some (.int (i % j)) else none
  | _, _ => none
def dPow : D → D → Option D
  | .int i, .int j => if 0 ≤ j ∧ j ≤ 1000000 ∧ i.natAbs < 2 ^ 64 then some (.int (i ^ j.toNat)) else none
  | _, _ => none
def dLt : D → D → Option D
  | .int i, .int j => some (.bool (decide (i < j)))
  | .tuple xs, .tuple ys => (intsOf xs).bind fun ns => (intsOf ys).bind fun ms => some (.bool (HT.lexLt ns ms))
  | _, _ => none
def dCmp (p : Int → Int → Bool) : D → D → Option D
  | .int i, .int j => some (.bool (p i j))
  | _, _ => none
def dEq (d e : D) : Option D := if eqOk d e = true then some (.bool (PyData.eqv d e)) else none
def dNe (d e : D) : Option D := if eqOk d e = true then some (.bool (!PyData.eqv d e)) else none
def inOk (d : D) (es : List D) : Bool := PyData.plainAll es && d.plain && decide (min (PyData.depthAll es) d.depth ≤ 64)
def dIn (neg : Bool) (d : D) : D → Option D
  | .list es => if inOk d es = true then some (.bool (if neg then !(es.any fun y => PyData.eqv y d) else es.any fun y => PyData.eqv y d)) else none
  | .tuple es => if inOk d es = true then some (.bool (if neg then !(es.any fun y => PyData.eqv y d) else es.any fun y => PyData.eqv y d)) else none
  | _ => none
def dIsN (neg : Bool) (d : D) : D → Option D
  | .none => some (.bool (if neg then !(match d with | .none => true | _ => false) else (match d with | .none => true | _ => false)))
  | _ => none
def dIx : D → D → Option D
  | .list xs, .int i => atI xs i
  | .tuple xs, .int i => atI xs i
  | _, _ => none

section
variable {X : Cx}
theorem opd_scal {r : R2} {f : D → D → Option D}
    (h : ∀ (G H : Hp) (x y : V) (d e z : D), Same G H → Rp G x d → Rp G y e → f d e = some z → ∀ (Q : VK), (∀ v, Rp G v z → Q v H) → r x y H Q) : OpD r f := fun G H x y d e z Q gh rx ry hf k =>
  h G H x y d e z gh rx ry hf Q fun v r => k v G H (Grow.refl _ _ _) gh r
abbrev rAddD (K : PySem.W.Frag) : R2 := fun x y H Q => (rI0 (fun i j => V.int (i + j)) x y H Q) ∨ (rCatF K x y H Q) ∨ (rCat x y H Q) ∨ (∃ i j, x = V.str i ∧ y = V.str j ∧ i.length + j.length ≤ sizeLine ∧ Q (.str (i ++ j)) H)
theorem or_add : OpR X (binaryOp .Add) (rAddD X.K) := op_add.or (op_catF.or (op_cat.or op_add_str))
theorem od_add {K : PySem.W.Frag} : OpD (rAddD K) dAdd := by
  intro G H x y d e z Q gh rx ry hf k
  cases rx with
  | int i =>
    cases ry with
    | int j =>
      cases hf
      exact .inl ⟨i, j, rfl, rfl, k _ G H (Grow.refl _ _ _) gh (.int _)⟩
    | _ => cases hf
  | str i =>
    cases ry with
    | str j =>
      simp only [dAdd, Option.ite_none_right_eq_some, Option.some.injEq] at hf
      obtain ⟨hz, rfl⟩ := hf
      exact .inr (.inr (.inr ⟨i, j, rfl, rfl, hz, k _ G H (Grow.refl _ _ _) gh (.str _)⟩))
    | _ => cases hf
  | @tup p vs ds hp r =>
    cases ry with
    | @tup p2 vs2 ds2 hp2 r2 =>
      simp only [dAdd, Option.ite_none_right_eq_some, Option.some.injEq] at hf
      obtain ⟨hz, rfl⟩ := hf
      have l1 := r.length
      have l2 := r2.length
      refine .inr (.inl ⟨p, p2, vs, vs2, rfl, rfl, (hp.sqm gh), (hp2.sqm gh), by omega, fun e => ?_, fun _ e => ?_, fun _ _ q o ho hq => ?_⟩)
      · subst e
        have : ds = [] := by cases ds with | nil => rfl | cons _ _ => simp at l1
        subst this
        exact k _ G H (Grow.refl _ _ _) gh (.tup hp2 r2)
      · subst e
        have : ds2 = [] := by cases ds2 with | nil => rfl | cons _ _ => simp at l2
        subst this
        rw [List.append_nil] at k
        exact k _ G H (Grow.refl _ _ _) gh (.tup hp r)
      · obtain ⟨g, s⟩ := grow_new gh hq (.frz o (.tup (vs ++ vs2)))
        exact k _ _ _ g s (.tup (Tu.new ho) ((r.append r2).mono g.gg))
    | _ => cases hf
  | @lst p vs ds hp r =>
    cases ry with
    | @lst p2 vs2 ds2 hp2 r2 =>
      simp only [dAdd, Option.ite_none_right_eq_some, Option.some.injEq] at hf
      obtain ⟨hz, rfl⟩ := hf
      have l1 := r.length
      have l2 := r2.length
      refine .inr (.inr (.inl ⟨p, p2, vs, vs2, rfl, rfl, gh _ _ hp, gh _ _ hp2, by omega, fun q hq => ?_⟩))
      obtain ⟨g, s⟩ := grow_new gh hq (.lst (vs ++ vs2))
      exact k _ _ _ g s (.lst upd_same ((r.append r2).mono g.gg))
    | _ => cases hf
  | _ => cases hf
theorem od_sub : OpD (rI0 fun i j => V.int (i - j)) dSub := opd_scal fun G H x y d e z gh rx ry hf Q k => by
  cases rx with
  | int i =>
    cases ry with
    | int j => cases hf; exact ⟨i, j, rfl, rfl, k _ (.int _)⟩
    | _ => cases hf
  | _ => cases hf
theorem od_mul : OpD (rI CMulW fun i j => V.int (i * j)) dMul := opd_scal fun G H x y d e z gh rx ry hf Q k => by
  cases rx with
  | int i =>
    cases ry with
    | int j =>
      simp only [dMul, Option.ite_none_right_eq_some, Option.some.injEq] at hf
      obtain ⟨hz, rfl⟩ := hf
      exact ⟨i, j, rfl, rfl, hz, k _ (.int _)⟩
    | _ => cases hf
  | _ => cases hf
theorem od_fdiv : OpD (rI CDivW fun i j => V.int (i / j)) dFdiv := opd_scal fun G H x y d e z gh rx ry hf Q k => by
  cases rx with
  | int i =>
    cases ry with
    | int j =>
      simp only [dFdiv, Option.ite_none_right_eq_some, Option.some.injEq] at hf
      obtain ⟨hz, rfl⟩ := hf
      exact ⟨i, j, rfl, rfl, hz, k _ (.int _)⟩
    | _ => cases hf
  | _ => cases hf
theorem od_mod : OpD (rI (fun _ j => 0 < j) fun i j => V.int (i % j)) dMod := opd_scal fun G H x y d e z gh rx ry hf Q k => by
  cases rx with
  | int i =>
    cases ry with
    | int j =>
      simp only [dMod, Option.ite_none_right_eq_some, Option.some.injEq] at hf
      obtain ⟨hz, rfl⟩ := hf
      exact ⟨i, j, rfl, rfl, hz, k _ (.int _)⟩
    | _ => cases hf
  | _ => cases hf
theorem od_pow : OpD (rI CPow fun i j => V.int (i ^ j.toNat)) dPow := opd_scal fun G H x y d e z gh rx ry hf Q k => by
  cases rx with
  | int i =>
    cases ry with
    | int j =>
      simp only [dPow, Option.ite_none_right_eq_some, Option.some.injEq] at hf
      obtain ⟨hz, rfl⟩ := hf
      exact ⟨i, j, rfl, rfl, hz, k _ (.int _)⟩
    | _ => cases hf
  | _ => cases hf
theorem od_cmp {p : Int → Int → Bool} : OpD (rI0 fun i j => V.bl (p i j)) (dCmp p) := opd_scal fun G H x y d e z gh rx ry hf Q k => by
  cases rx with
  | int i =>
    cases ry with
    | int j => cases hf; exact ⟨i, j, rfl, rfl, k _ (.bl _)⟩
    | _ => cases hf
  | _ => cases hf
abbrev rLtD (K : PySem.W.Frag) : R2 := fun x y H Q => (rI0 (fun i j => V.bl (decide (i < j))) x y H Q) ∨ (rLtT K x y H Q)
theorem or_lt (hu : X.A.units < cLine) : OpR X (compareOp .Lt) (rLtD X.K) := op_lt.or (op_ltT hu)
theorem od_lt {K : PySem.W.Frag} : OpD (rLtD K) dLt := opd_scal fun G H x y d e z gh rx ry hf Q k => by
  cases rx with
  | int i =>
    cases ry with
    | int j => cases hf; exact .inl ⟨i, j, rfl, rfl, k _ (.bl _)⟩
    | _ => cases hf
  | @tup p vs ds hp r =>
    cases ry with
    | @tup p2 vs2 ds2 hp2 r2 =>
      simp only [dLt, Option.bind_eq_some_iff] at hf
      obtain ⟨ns, h1, ms, h2, h3⟩ := hf
      cases h3
      have e1 := intsOf_eq h1
      have e2 := intsOf_eq h2
      subst e1 e2
      have e1 := r.ints
      have e2 := r2.ints
      subst e1 e2
      exact .inr ⟨p, p2, ns, ms, rfl, rfl, (hp.sqm gh), (hp2.sqm gh), k _ (.bl _)⟩
    | _ => cases hf
  | _ => cases hf
/-- == and != of data -/
def rEq2 (neg : Bool) : R2 := fun x y H Q => ∃ d e, Rp H x d ∧ Rp H y e ∧ eqOk d e = true ∧ Q (.bl (if neg then !PyData.eqv d e else PyData.eqv d e)) H
theorem eqv_nil (xs : List D) : PyData.eqv (.tuple xs) (.tuple []) = xs.isEmpty := by cases xs <;> rfl
theorem rc_eq {prog : Program} {w : World} {A : Around} {E : Value → Shared → Prop} {s : Shared} {l b : Addr} {us ws : Array Value} {xs : List D} {Q : Value → Shared → Prop} (hl : s.heap.IsTuple l us) (hb : s.heap.IsTuple b ws) (h0 : ws.size = 0) (hx : us.toList.length = xs.length) (hu : A.units < cLine)
    (h : Q (.bool (PyData.eqv (.tuple xs) (.tuple []))) s) : wpAny (model prog w) A (compareOp .Eq (.ref l) (.ref b)) Q E s := by
  refine SeqAt.eq_tupleAt (e := fun _ => true) hl hb hu (fun j _ j2 => by omega) ?_
  rw [eqv_nil] at h
  have e : ((List.range (min us.size ws.size)).all (fun _ => true) && us.size == ws.size) = xs.isEmpty := by
    rw [h0]
    have : us.size = xs.length := by simpa using hx
    cases xs with
    | nil => simp_all
    | cons _ _ => simp [this]
  rw [e]
  exact h
theorem rc_ne {prog : Program} {w : World} {A : Around} {E : Value → Shared → Prop} {s : Shared} {l b : Addr} {us ws : Array Value} {xs : List D} {Q : Value → Shared → Prop} (hl : s.heap.IsTuple l us) (hb : s.heap.IsTuple b ws) (h0 : ws.size = 0) (hx : us.toList.length = xs.length) (hu : A.units < cLine)
    (h : Q (.bool (!PyData.eqv (.tuple xs) (.tuple []))) s) : wpAny (model prog w) A (compareOp .NotEq (.ref l) (.ref b)) Q E s := by
  rw [eqv_nil] at h
  refine SeqAt.RcNeAt.tuples (e := fun _ => true) hl hb hu (fun j _ j2 => by omega) prog w E Q ?_
  have e : ((List.range (min us.size ws.size)).all (fun _ => true) && us.size == ws.size) = xs.isEmpty := by
    rw [h0]
    have : us.size = xs.length := by simpa using hx
    cases xs with
    | nil => simp_all
    | cons _ _ => simp [this]
  rw [e]
  exact h
theorem or_eq (hu : X.A.units + 64 < cLine) : OpR X (compareOp .Eq) (rEq2 false) := by
  intro pins s σ H x y v u Q I rx ry h
  obtain ⟨d, e, hd, he, ok, q⟩ := h
  simp only [eqOk, Bool.or_eq_true, Bool.and_eq_true, decide_eq_true_eq] at ok
  obtain ⟨as, r1⟩ := Rp.reads I hd rx
  obtain ⟨bs, r2⟩ := Rp.reads I he ry
  rcases ok with ok | ok
  · exact SeqAt.eq_plain r1 r2 ok.1.1 ok.1.2 (by omega) ⟨.bl _, H, I, rfl, q⟩
  · match d, e, ok, r1, r2, q with
    | .tuple xs, .tuple [], _, .tuple h1 h2 h3 h4, .tuple k1 k2 k3 k4, q =>
      have n2 : ([] : List D).length = _ := (SeqAt.ReadsAll.length _ _ _ k4).symm
      exact rc_eq ⟨_, h1, h2, _, h3⟩ ⟨_, k1, k2, _, k3⟩ (by simpa using n2.symm) (SeqAt.ReadsAll.length _ _ _ h4) (by omega) ⟨.bl _, H, I, rfl, q⟩
theorem or_ne (hu : X.A.units + 64 < cLine) : OpR X (compareOp .NotEq) (rEq2 true) := by
  intro pins s σ H x y v u Q I rx ry h
  obtain ⟨d, e, hd, he, ok, q⟩ := h
  simp only [eqOk, Bool.or_eq_true, Bool.and_eq_true, decide_eq_true_eq] at ok
  obtain ⟨as, r1⟩ := Rp.reads I hd rx
  obtain ⟨bs, r2⟩ := Rp.reads I he ry
  rcases ok with ok | ok
  · exact SeqAt.ne_plain r1 r2 ok.1.1 ok.1.2 (by omega) ⟨.bl _, H, I, rfl, q⟩
  · match d, e, ok, r1, r2, q with
    | .tuple xs, .tuple [], _, .tuple h1 h2 h3 h4, .tuple k1 k2 k3 k4, q =>
      have n2 : ([] : List D).length = _ := (SeqAt.ReadsAll.length _ _ _ k4).symm
      exact rc_ne ⟨_, h1, h2, _, h3⟩ ⟨_, k1, k2, _, k3⟩ (by simpa using n2.symm) (SeqAt.ReadsAll.length _ _ _ h4) (by omega) ⟨.bl _, H, I, rfl, q⟩
theorem od_eq : OpD (rEq2 false) dEq := opd_scal fun G H x y d e z gh rx ry hf Q k => by
  simp only [dEq, Option.ite_none_right_eq_some, Option.some.injEq] at hf
  obtain ⟨hz, rfl⟩ := hf
  exact ⟨d, e, rx.mono gh, ry.mono gh, hz, k _ (.bl _)⟩
theorem od_ne : OpD (rEq2 true) dNe := opd_scal fun G H x y d e z gh rx ry hf Q k => by
  simp only [dNe, Option.ite_none_right_eq_some, Option.some.injEq] at hf
  obtain ⟨hz, rfl⟩ := hf
  exact ⟨d, e, rx.mono gh, ry.mono gh, hz, k _ (.bl _)⟩
/-- in, not in, of a list or a tuple of data -/
def rIn2 (neg : Bool) : R2 := fun x y H Q => ∃ d es, Rp H x d ∧ (Rp H y (.list es) ∨ Rp H y (.tuple es)) ∧ inOk d es = true ∧ Q (.bl (if neg then !(es.any fun z => PyData.eqv z d) else es.any fun z => PyData.eqv z d)) H
theorem or_in (hu : X.A.units + 65 < cLine) : OpR X (compareOp .In) (rIn2 false) := by
  intro pins s σ H x y v u Q I rx ry h
  obtain ⟨d, es, hd, he, ok, q⟩ := h
  simp only [inOk, Bool.and_eq_true, decide_eq_true_eq] at ok
  obtain ⟨as, r1⟩ := Rp.reads I hd rx
  rcases he with he | he
  · obtain ⟨bs, r2⟩ := Rp.reads I he ry
    exact SeqAt.in_list_data r2 r1 ok.1.1 ok.1.2 (by omega) ⟨.bl _, H, I, rfl, q⟩
  · obtain ⟨bs, r2⟩ := Rp.reads I he ry
    exact SeqAt.in_tuple_data r2 r1 ok.1.1 ok.1.2 (by omega) ⟨.bl _, H, I, rfl, q⟩
theorem or_notIn (hu : X.A.units + 65 < cLine) : OpR X (compareOp .NotIn) (rIn2 true) := by
  intro pins s σ H x y v u Q I rx ry h
  obtain ⟨d, es, hd, he, ok, q⟩ := h
  simp only [inOk, Bool.and_eq_true, decide_eq_true_eq] at ok
  obtain ⟨as, r1⟩ := Rp.reads I hd rx
  rcases he with he | he
  · obtain ⟨bs, r2⟩ := Rp.reads I he ry
    exact SeqAt.notIn_list_data r2 r1 ok.1.1 ok.1.2 (by omega) ⟨.bl _, H, I, rfl, q⟩
  · obtain ⟨bs, r2⟩ := Rp.reads I he ry
    exact SeqAt.notIn_tuple_data r2 r1 ok.1.1 ok.1.2 (by omega) ⟨.bl _, H, I, rfl, q⟩
theorem od_in {neg : Bool} : OpD (rIn2 neg) (dIn neg) := opd_scal fun G H x y d e z gh rx ry hf Q k => by
  cases ry with
  | @lst p vs es hp r =>
    simp only [dIn, Option.ite_none_right_eq_some, Option.some.injEq] at hf
    obtain ⟨hz, rfl⟩ := hf
    exact ⟨d, es, rx.mono gh, .inl (.lst (gh _ _ hp) (r.mono gh)), hz, k _ (.bl _)⟩
  | @tup p vs es hp r =>
    simp only [dIn, Option.ite_none_right_eq_some, Option.some.injEq] at hf
    obtain ⟨hz, rfl⟩ := hf
    exact ⟨d, es, rx.mono gh, .inr (.tup (hp.mono gh) (r.mono gh)), hz, k _ (.bl _)⟩
  | _ => cases hf
theorem od_isN : OpD (fun x y H Q => y = .non ∧ Q (.bl (decide (x = .non))) H) (dIsN false) := opd_scal fun G H x y d e z gh rx ry hf Q k => by
  cases ry with
  | non =>
    cases hf
    refine ⟨rfl, k _ ?_⟩
    cases rx <;> exact .bl _
  | _ => cases hf
theorem od_notN : OpD (fun x y H Q => y = .non ∧ Q (.bl (!decide (x = .non))) H) (dIsN true) := opd_scal fun G H x y d e z gh rx ry hf Q k => by
  cases ry with
  | non =>
    cases hf
    refine ⟨rfl, k _ ?_⟩
    cases rx <;> exact .bl _
  | _ => cases hf
theorem ixN_len {n m : Nat} (h : n = m) (i : Int) : ixN n i = ixN m i := by rw [h]
theorem od_ix {K : PySem.W.Frag} : OpD (fun x y H Q => rIxL K x y H Q ∨ rIxT K x y H Q) dIx := opd_scal fun G H x y d e z gh rx ry hf Q k => by
  have key : ∀ {vs : List V} {ds : List D} {i : Int}, RpL G vs ds → atI ds i = some z → ∃ v, atI vs i = some v ∧ Rp G v z := fun {vs ds i} r h => by
    unfold atI at h ⊢
    rw [r.length]
    obtain ⟨j, h1, h2⟩ := Option.bind_eq_some_iff.mp h
    obtain ⟨v, h3, h4⟩ := r.get h2
    exact ⟨v, by rw [h1]; exact h3, h4⟩
  cases rx with
  | @lst p vs ds hp r =>
    cases ry with
    | int i =>
      obtain ⟨v, h1, h2⟩ := key r hf
      exact .inl ⟨p, vs, i, v, rfl, rfl, SqL.of (gh _ _ hp), h1, k v h2⟩
    | _ => cases hf
  | @tup p vs ds hp r =>
    cases ry with
    | int i =>
      obtain ⟨v, h1, h2⟩ := key r hf
      exact .inr ⟨p, vs, i, v, rfl, rfl, (hp.sqm gh), h1, k v h2⟩
    | _ => cases hf
  | _ => cases hf
theorem or_ix : IxR X (fun x y H Q => rIxL X.K x y H Q ∨ rIxT X.K x y H Q) := ix_list.or ix_tup
end

/-! ### the sequences of meanings for pure code -/
theorem lift1 {α β : Type} {oa : Option α} {f : α → Option β} {q : β → Nat → Prop} {m : Nat} (h : lift (oa.bind f) q m) : lift oa (fun x m1 => lift (f x) q m1) m := by
  obtain ⟨z, h, hq⟩ := h
  obtain ⟨x, h1, h2⟩ := Option.bind_eq_some_iff.mp h
  exact ⟨x, h1, z, h2, hq⟩
theorem lift2 {f : D → D → Option D} {oa ob : Option D} {q : D → Nat → Prop} {m : Nat} (h : lift (oa.bind fun x => ob.bind fun y => f x y) q m) : op2 f (lift oa) (lift ob) q m := by
  obtain ⟨x, h1, h2⟩ := lift1 h
  obtain ⟨y, h3, h4⟩ := lift1 h2
  exact ⟨x, h1, y, h3, h4⟩
abbrev JE (X : Cx) (R : Res) (ρ : List Cell) (e : Expr) (o : Option D) : Prop := JM X R ρ e (lift o)
abbrev JTE (X : Cx) (R : Res) (ρ : List Cell) (e : Expr) (o : Option Bool) : Prop := JT X R ρ e (lift o)
abbrev JLE (X : Cx) (R : Res) (ρ : List Cell) (e : Expr) (o : Option (List D)) : Prop := JL X R ρ e (lift o)
theorem lift_some' {α : Type} {a : α} {q : α → Nat → Prop} {m : Nat} (h : lift (some a) q m) : q a m := by rw [lift_some] at h; exact h

section
variable {X : Cx} {R : Res} {ρ : List Cell} {e a b c : Expr} {pos : Pos}
theorem je_var (i : Nat) {x : Str} {d : D} (hρ : ρ[i]? = some (.dat d) := by rfl) (hN : X.N[i]? = some x := by rfl) (hv : Vis X.env.scope x := by first | exact Or.inl rfl | exact Or.inr (Or.inl rfl) | exact Or.inr (Or.inr rfl)) (hd : (x == ("__debug__" : Str)) = false := by decide)
    (hcd : (x == ("__classdict__" : Str)) = false := by decide) : JE X R ρ (.Name x pos) (some d) := (jm_var i hρ hN hv hd hcd).imp fun _ _ => lift_some'
theorem je_int {i : Int} {j} : JE X R ρ (.Constant (.int i) j pos) (some (.int i)) := jm_int.imp fun _ _ => lift_some'
theorem je_bl {i : Bool} {j} : JE X R ρ (.Constant (.bool i) j pos) (some (.bool i)) := jm_bl.imp fun _ _ => lift_some'
theorem je_non {j} : JE X R ρ (.Constant .none j pos) (some .none) := jm_non.imp fun _ _ => lift_some'
theorem je_str {i : Str} {j} : JE X R ρ (.Constant (.str i) j pos) (some (.str i)) := jm_str.imp fun _ _ => lift_some'
abbrev b2 (f : D → D → Option D) (oa ob : Option D) : Option D := oa.bind fun x => ob.bind fun y => f x y
theorem je_op {op : Operator} {r : R2} {f : D → D → Option D} {oa ob : Option D} (hr : OpR X (binaryOp op) r) (ho : OpD r f) (ha : JE X R ρ a oa) (hb : JE X R ρ b ob) : JE X R ρ (.BinOp a op b pos) (b2 f oa ob) := (jm_op hr ho ha hb).imp fun _ _ => lift2
theorem je_cmp {op : CmpOp} {r : R2} {f : D → D → Option D} {oa ob : Option D} (hr : OpR X (compareOp op) r) (ho : OpD r f) (ha : JE X R ρ a oa) (hb : JE X R ρ b ob) (hm : behindInMarks op b = false) : JE X R ρ (.Compare a [op] [b] pos) (b2 f oa ob) :=
  (jm_cmp hr ho ha hb hm).imp fun _ _ => lift2
theorem je_ix {oa ob : Option D} (ha : JE X R ρ a oa) (hb : JE X R ρ b ob) (hs : PlainIx b := by exact fun _ _ => rfl) : JE X R ρ (.Subscript a b pos) (b2 dIx oa ob) := (jm_ix or_ix od_ix ha hb hs).imp fun _ _ => lift2

/-! ### tests -/
def asB : D → Option Bool
  | .bool b => some b
  | _ => none
theorem asB_eq {d : D} {b : Bool} (h : asB d = some b) : d = .bool b := by
  cases d with
  | bool c => cases h; rfl
  | _ => cases h
/-- a value as a test: a bool's -/
theorem jt_val {T : M D} (h : JM X R ρ e T) (he : ∀ whole, isTrue e X.env whole = (do let v ← whole; standAt e.pos; holding [v] (truthy v)) := by intro _; rfl) : JT X R ρ e (fun q => T fun d m => lift (asB d) q m) := by
  refine PT.imp (pt_val h he) fun σ H Q ⟨G, m, q, S, t, k⟩ => ⟨G, m, _, S, t, fun v d G' H' m' S' g r hq => ?_⟩
  obtain ⟨b, hb, hq⟩ := hq
  rw [asB_eq hb] at r
  cases r
  exact ⟨b, rfl, k b G' H' m' S' g hq⟩
theorem jte_val {o : Option D} (h : JE X R ρ e o) (he : ∀ whole, isTrue e X.env whole = (do let v ← whole; standAt e.pos; holding [v] (truthy v)) := by intro _; rfl) : JTE X R ρ e (o.bind asB) := (jt_val h he).imp fun _ _ => lift1
theorem jt_cmp {op : CmpOp} {r : R2} {f : D → D → Option D} {Ta Tb : M D} (hr : OpR X (compareOp op) r) (ho : OpD r f) (ha : JM X R ρ a Ta) (hb : JM X R ρ b Tb) (hm : behindInMarks op b = false) : JT X R ρ (.Compare a [op] [b] pos) (fun q => op2 f Ta Tb fun d m => lift (asB d) q m) := by
  refine PT.imp (pt_cmpR hr ha hb hm) fun σ H Q ⟨G, m, q, S, t, k⟩ => op_read (R := R) (ρ := ρ) ho σ H _ ⟨G, m, _, S, t, fun v d G' H' m' S' g r hq => ?_⟩
  obtain ⟨b, hb, hq⟩ := hq
  rw [asB_eq hb] at r
  cases r
  exact ⟨b, rfl, k b G' H' m' S' g hq⟩
theorem jte_cmp {op : CmpOp} {r : R2} {f : D → D → Option D} {oa ob : Option D} (hr : OpR X (compareOp op) r) (ho : OpD r f) (ha : JE X R ρ a oa) (hb : JE X R ρ b ob) (hm : behindInMarks op b = false) : JTE X R ρ (.Compare a [op] [b] pos) ((b2 f oa ob).bind asB) :=
  (jt_cmp hr ho ha hb hm).imp fun _ _ h => lift2 (by
    obtain ⟨x, h1, h2⟩ := lift1 h
    exact ⟨x, h1, h2⟩)
def JW (X : Cx) (R : Res) (ρ : List Cell) (e : Expr) (T : M Bool) : Prop := PW X e (tT R ρ T)
theorem JW.jt {T : M Bool} (h : JW X R ρ e T) : JT X R ρ e T := PW.pt h
theorem PW.imp {t t' : TT} (h : PW X e t) (k : ∀ σ H Q, t' σ H Q → t σ H Q) : PW X e t' := ⟨fun wh pins s σ H Q I q => h.run wh pins s σ H Q I (k σ H Q q)⟩
theorem JW.imp {T T' : M Bool} (h : JW X R ρ e T) (k : ∀ q m, T' q m → T q m) : JW X R ρ e T' := PW.imp h fun _ _ _ ⟨G, m, q, S, t, c⟩ => ⟨G, m, q, S, k q m t, c⟩
variable {rest : List Expr}
theorem jw_and1 {T : M Bool} (ha : JT X R ρ a T) : JW X R ρ (.BoolOp .And [a] pos) T := pw_and1 ha
theorem jw_or1 {T : M Bool} (ha : JT X R ρ a T) : JW X R ρ (.BoolOp .Or [a] pos) T := pw_or1 ha
theorem jw_and {Ta Tb : M Bool} (ha : JT X R ρ a Ta) (hb : JW X R ρ (.BoolOp .And (b :: rest) pos) Tb) : JW X R ρ (.BoolOp .And (a :: b :: rest) pos) (fun q m => Ta (fun c m1 => if c = true then Tb q m1 else q false m1) m) := by
  refine PW.imp (pw_and ha hb) fun σ H Q ⟨G, m, q, S, t, k⟩ => ⟨G, m, _, S, t, fun c G1 H1 m1 S1 g1 q1 => ?_⟩
  cases c with
  | true =>
    show tT R ρ Tb σ H1 Q
    exact ⟨G1, m1, q, S1, q1, fun b G2 H2 m2 S2 g2 q2 => k b G2 H2 m2 S2 (g1.trans S1.vh g2) q2⟩
  | false =>
    show Q false H1
    exact k false G1 H1 m1 S1 g1 q1
theorem jw_or {Ta Tb : M Bool} (ha : JT X R ρ a Ta) (hb : JW X R ρ (.BoolOp .Or (b :: rest) pos) Tb) : JW X R ρ (.BoolOp .Or (a :: b :: rest) pos) (fun q m => Ta (fun c m1 => if c = true then q true m1 else Tb q m1) m) := by
  refine PW.imp (pw_or ha hb) fun σ H Q ⟨G, m, q, S, t, k⟩ => ⟨G, m, _, S, t, fun c G1 H1 m1 S1 g1 q1 => ?_⟩
  cases c with
  | false =>
    show tT R ρ Tb σ H1 Q
    exact ⟨G1, m1, q, S1, q1, fun b G2 H2 m2 S2 g2 q2 => k b G2 H2 m2 S2 (g1.trans S1.vh g2) q2⟩
  | true =>
    show Q true H1
    exact k true G1 H1 m1 S1 g1 q1
theorem jt_not {T : M Bool} (ha : JT X R ρ a T) : JT X R ρ (.UnaryOp .Not a pos) (fun q => T fun b => q (!b)) := by
  refine PT.imp (pt_not ha) fun σ H Q ⟨G, m, q, S, t, k⟩ => ⟨G, m, _, S, t, fun c G1 H1 m1 S1 g1 q1 => k (!c) G1 H1 m1 S1 g1 q1⟩
abbrev JWE (X : Cx) (R : Res) (ρ : List Cell) (e : Expr) (o : Option Bool) : Prop := JW X R ρ e (lift o)
def andO (oa ob : Option Bool) : Option Bool := oa.bind fun c => if c = true then ob else some false
def orO (oa ob : Option Bool) : Option Bool := oa.bind fun c => if c = true then some true else ob
theorem jwe_and {oa ob : Option Bool} (ha : JTE X R ρ a oa) (hb : JWE X R ρ (.BoolOp .And (b :: rest) pos) ob) : JWE X R ρ (.BoolOp .And (a :: b :: rest) pos) (andO oa ob) := (jw_and ha hb).imp fun q m h => by
  obtain ⟨c, h1, h2⟩ := lift1 h
  refine ⟨c, h1, ?_⟩
  cases c with
  | true => exact h2
  | false => exact lift_some' h2
theorem jwe_or {oa ob : Option Bool} (ha : JTE X R ρ a oa) (hb : JWE X R ρ (.BoolOp .Or (b :: rest) pos) ob) : JWE X R ρ (.BoolOp .Or (a :: b :: rest) pos) (orO oa ob) := (jw_or ha hb).imp fun q m h => by
  obtain ⟨c, h1, h2⟩ := lift1 h
  refine ⟨c, h1, ?_⟩
  cases c with
  | false => exact h2
  | true => exact lift_some' h2
theorem jwe_and1 {o : Option Bool} (ha : JTE X R ρ a o) : JWE X R ρ (.BoolOp .And [a] pos) o := jw_and1 ha
theorem jwe_or1 {o : Option Bool} (ha : JTE X R ρ a o) : JWE X R ρ (.BoolOp .Or [a] pos) o := jw_or1 ha
theorem jte_not {o : Option Bool} (ha : JTE X R ρ a o) : JTE X R ρ (.UnaryOp .Not a pos) (o.map (!·)) := (jt_not ha).imp fun q m h => by
  obtain ⟨z, h1, h2⟩ := h
  obtain ⟨c, h3, h4⟩ := Option.map_eq_some_iff.mp h1
  subst h4
  exact ⟨c, h3, h2⟩
/-- and, or, not as values -/
theorem jm_one {op} {T : M D} (h : JM X R ρ a T) : JM X R ρ (.BoolOp op [a] pos) T := pe_one h
theorem jm_and {Ta Tb : M D} (ha : JM X R ρ a Ta) (hb : JM X R ρ (.BoolOp .And (b :: rest) pos) Tb) : JM X R ρ (.BoolOp .And (a :: b :: rest) pos) (fun q m => Ta (fun d m1 => ∃ c, d = .bool c ∧ if c = true then Tb q m1 else q (.bool false) m1) m) := by
  refine PE.imp (pe_and ha hb) fun σ H Q ⟨G, m, q, S, t, k⟩ => ⟨G, m, _, S, t, fun v d G1 H1 m1 S1 g1 r1 q1 => ?_⟩
  obtain ⟨c, e, q1⟩ := q1
  subst e
  cases r1
  refine ⟨c, rfl, ?_⟩
  cases c with
  | true =>
    show tJ R ρ Tb σ H1 Q
    exact ⟨G1, m1, q, S1, q1, fun v b G2 H2 m2 S2 g2 r2 q2 => k v b G2 H2 m2 S2 (g1.trans S1.vh g2) r2 q2⟩
  | false =>
    show Q _ H1
    exact k _ _ G1 H1 m1 S1 g1 (.bl false) q1
theorem jm_or {Ta Tb : M D} (ha : JM X R ρ a Ta) (hb : JM X R ρ (.BoolOp .Or (b :: rest) pos) Tb) : JM X R ρ (.BoolOp .Or (a :: b :: rest) pos) (fun q m => Ta (fun d m1 => ∃ c, d = .bool c ∧ if c = true then q (.bool true) m1 else Tb q m1) m) := by
  refine PE.imp (pe_or ha hb) fun σ H Q ⟨G, m, q, S, t, k⟩ => ⟨G, m, _, S, t, fun v d G1 H1 m1 S1 g1 r1 q1 => ?_⟩
  obtain ⟨c, e, q1⟩ := q1
  subst e
  cases r1
  refine ⟨c, rfl, ?_⟩
  cases c with
  | false =>
    show tJ R ρ Tb σ H1 Q
    exact ⟨G1, m1, q, S1, q1, fun v b G2 H2 m2 S2 g2 r2 q2 => k v b G2 H2 m2 S2 (g1.trans S1.vh g2) r2 q2⟩
  | true =>
    show Q _ H1
    exact k _ _ G1 H1 m1 S1 g1 (.bl true) q1
theorem jm_not {T : M D} (ha : JM X R ρ a T) : JM X R ρ (.UnaryOp .Not a pos) (fun q => T fun d m => ∃ c, d = .bool c ∧ q (.bool (!c)) m) := by
  refine PE.imp (pe_not ha) fun σ H Q ⟨G, m, q, S, t, k⟩ => ⟨G, m, _, S, t, fun v d G1 H1 m1 S1 g1 r1 q1 => ?_⟩
  obtain ⟨c, e, q1⟩ := q1
  subst e
  cases r1
  exact ⟨c, rfl, k _ _ G1 H1 m1 S1 g1 (.bl _) q1⟩
def andV (oa ob : Option D) : Option D := (oa.bind asB).bind fun c => if c = true then ob else some (.bool false)
def orV (oa ob : Option D) : Option D := (oa.bind asB).bind fun c => if c = true then some (.bool true) else ob
def notV (oa : Option D) : Option D := (oa.bind asB).map fun c => .bool (!c)
theorem je_one {op} {o : Option D} (h : JE X R ρ a o) : JE X R ρ (.BoolOp op [a] pos) o := jm_one h
theorem je_and {oa ob : Option D} (ha : JE X R ρ a oa) (hb : JE X R ρ (.BoolOp .And (b :: rest) pos) ob) : JE X R ρ (.BoolOp .And (a :: b :: rest) pos) (andV oa ob) := (jm_and ha hb).imp fun q m h => by
  obtain ⟨c, h1, h2⟩ := lift1 h
  obtain ⟨d, h3, h4⟩ := Option.bind_eq_some_iff.mp h1
  refine ⟨d, h3, c, asB_eq h4, ?_⟩
  cases c with
  | true => exact h2
  | false => exact lift_some' h2
theorem je_or {oa ob : Option D} (ha : JE X R ρ a oa) (hb : JE X R ρ (.BoolOp .Or (b :: rest) pos) ob) : JE X R ρ (.BoolOp .Or (a :: b :: rest) pos) (orV oa ob) := (jm_or ha hb).imp fun q m h => by
  obtain ⟨c, h1, h2⟩ := lift1 h
  obtain ⟨d, h3, h4⟩ := Option.bind_eq_some_iff.mp h1
  refine ⟨d, h3, c, asB_eq h4, ?_⟩
  cases c with
  | false => exact h2
  | true => exact lift_some' h2
theorem je_not {oa : Option D} (ha : JE X R ρ a oa) : JE X R ρ (.UnaryOp .Not a pos) (notV oa) := (jm_not ha).imp fun q m h => by
  obtain ⟨z, h1, h2⟩ := h
  obtain ⟨c, h3, h4⟩ := Option.map_eq_some_iff.mp h1
  obtain ⟨d, h5, h6⟩ := Option.bind_eq_some_iff.mp h3
  subst h4
  exact ⟨d, h5, c, asB_eq h6, h2⟩
theorem jm_if {Tc : M Bool} {Ta Tb : M D} (hc : JT X R ρ c Tc) (ha : JM X R ρ a Ta) (hb : JM X R ρ b Tb) : JM X R ρ (.IfExp c a b pos) (fun q m => Tc (fun t m1 => if t = true then Ta q m1 else Tb q m1) m) := by
  refine PE.imp (pe_ifExp hc ha hb) fun σ H Q ⟨G, m, q, S, t, k⟩ => ⟨G, m, _, S, t, fun c G1 H1 m1 S1 g1 q1 => ?_⟩
  cases c with
  | true =>
    show tJ R ρ Ta σ H1 Q
    exact ⟨G1, m1, q, S1, q1, fun v b G2 H2 m2 S2 g2 r2 q2 => k v b G2 H2 m2 S2 (g1.trans S1.vh g2) r2 q2⟩
  | false =>
    show tJ R ρ Tb σ H1 Q
    exact ⟨G1, m1, q, S1, q1, fun v b G2 H2 m2 S2 g2 r2 q2 => k v b G2 H2 m2 S2 (g1.trans S1.vh g2) r2 q2⟩
def ifO {α : Type} (oc : Option Bool) (oa ob : Option α) : Option α := oc.bind fun t => if t = true then oa else ob
theorem je_if {oc : Option Bool} {oa ob : Option D} (hc : JTE X R ρ c oc) (ha : JE X R ρ a oa) (hb : JE X R ρ b ob) : JE X R ρ (.IfExp c a b pos) (ifO oc oa ob) := (jm_if hc ha hb).imp fun q m h => by
  obtain ⟨t, h1, h2⟩ := lift1 h
  refine ⟨t, h1, ?_⟩
  cases t <;> exact h2

/-! ### chains a < b < c -/
theorem jm_chain {op op' : CmpOp} {r r' : R2} {f f' : D → D → Option D} {Ta Tb Tc : M D} (hr : OpR X (compareOp op) r) (hr' : OpR X (compareOp op') r') (ho : OpD r f) (ho' : OpD r' f') (ha : JM X R ρ a Ta) (hb : JM X R ρ b Tb) (hc : JM X R ρ c Tc)
    (hm : lastMarks [op, op'] [b, c] = false := by with_unfolding_all rfl) : JM X R ρ (.Compare a [op, op'] [b, c] pos) (fun q m => Ta (fun x m1 => Tb (fun y m2 => ∃ t, f x y = some (.bool t) ∧ if t = true then Tc (fun z m3 => lift (f' y z) q m3) m2 else q (.bool false) m2) m1) m) := by
  refine PE.imp (pe_chain hr hr' ha hb hc hm) fun σ H Q ⟨G, m, q, S, t, k⟩ => ⟨G, m, _, S, t, fun v d G1 H1 m1 S1 g1 r1 q1 => ⟨G1, m1, _, S1, q1, fun w e G2 H2 m2 S2 g2 r2 q2 => ?_⟩⟩
  obtain ⟨t, hf, q2⟩ := q2
  refine ho G2 H2 v w d e _ _ S2.gh (r1.mono g2.gg) r2 hf fun u G3 H3 g3 s3 r3 => ?_
  obtain ⟨S3, g3'⟩ := S2.growS g3 s3
  cases r3
  refine ⟨t, rfl, ?_⟩
  cases t with
  | false =>
    show Q _ H3
    exact k _ _ G3 H3 m2 S3 ((g1.trans S1.vh g2).trans S2.vh g3') (.bl false) q2
  | true =>
    show tJ R ρ Tc σ H3 _
    refine ⟨G3, m2, _, S3, q2, fun w2 z G4 H4 m4 S4 g4 r4 q4 => ?_⟩
    obtain ⟨z2, hz, q4⟩ := q4
    refine ho' G4 H4 w w2 e z z2 Q S4.gh (r2.mono (g3.gg.trans g4.gg)) r4 hz fun u5 G5 H5 g5 s5 r5 => ?_
    obtain ⟨S5, g5'⟩ := S4.growS g5 s5
    exact k _ _ G5 H5 m4 S5 ((((g1.trans S1.vh g2).trans S2.vh g3').trans S3.vh g4).trans S4.vh g5') r5 q4
def chainO (f f' : D → D → Option D) (oa ob oc : Option D) : Option D := oa.bind fun x => ob.bind fun y => ((f x y).bind asB).bind fun t => if t = true then oc.bind fun z => f' y z else some (.bool false)
theorem je_chain {op op' : CmpOp} {r r' : R2} {f f' : D → D → Option D} {oa ob oc : Option D} (hr : OpR X (compareOp op) r) (hr' : OpR X (compareOp op') r') (ho : OpD r f) (ho' : OpD r' f') (ha : JE X R ρ a oa) (hb : JE X R ρ b ob) (hc : JE X R ρ c oc)
    (hm : lastMarks [op, op'] [b, c] = false := by with_unfolding_all rfl) : JE X R ρ (.Compare a [op, op'] [b, c] pos) (chainO f f' oa ob oc) := (jm_chain hr hr' ho ho' ha hb hc hm).imp fun q m h => by
  obtain ⟨x, h1, h2⟩ := lift1 h
  obtain ⟨y, h3, h4⟩ := lift1 h2
  obtain ⟨t, h5, h6⟩ := lift1 h4
  obtain ⟨d, h7, h8⟩ := Option.bind_eq_some_iff.mp h5
  refine ⟨x, h1, y, h3, t, by rw [h7, asB_eq h8], ?_⟩
  cases t with
  | true =>
    obtain ⟨z, h9, h10⟩ := lift1 h6
    exact ⟨z, h9, h10⟩
  | false => exact lift_some' h6
theorem jt_chain {op op' : CmpOp} {r r' : R2} {f f' : D → D → Option D} {Ta Tb Tc : M D} (hr : OpR X (compareOp op) r) (hr' : OpR X (compareOp op') r') (ho : OpD r f) (ho' : OpD r' f') (ha : JM X R ρ a Ta) (hb : JM X R ρ b Tb) (hc : JM X R ρ c Tc)
    (hm : lastMarks [op, op'] [b, c] = false := by with_unfolding_all rfl) : JT X R ρ (.Compare a [op, op'] [b, c] pos) (fun q m => Ta (fun x m1 => Tb (fun y m2 => ∃ t, f x y = some (.bool t) ∧ if t = true then Tc (fun z m3 => ∃ u, f' y z = some (.bool u) ∧ q u m3) m2 else q false m2) m1) m) := by
  refine PT.imp (pt_chain hr hr' ha hb hc hm) fun σ H Q ⟨G, m, q, S, t, k⟩ => ⟨G, m, _, S, t, fun v d G1 H1 m1 S1 g1 r1 q1 => ⟨G1, m1, _, S1, q1, fun w e G2 H2 m2 S2 g2 r2 q2 => ?_⟩⟩
  obtain ⟨t, hf, q2⟩ := q2
  refine ho G2 H2 v w d e _ _ S2.gh (r1.mono g2.gg) r2 hf fun u G3 H3 g3 s3 r3 => ?_
  obtain ⟨S3, g3'⟩ := S2.growS g3 s3
  cases r3
  refine ⟨t, rfl, ?_⟩
  cases t with
  | false => exact ⟨false, rfl, k _ G3 H3 m2 S3 ((g1.trans S1.vh g2).trans S2.vh g3') q2⟩
  | true =>
    show tJ R ρ Tc σ H3 _
    refine ⟨G3, m2, _, S3, q2, fun w2 z G4 H4 m4 S4 g4 r4 q4 => ?_⟩
    obtain ⟨u2, hz, q4⟩ := q4
    refine ho' G4 H4 w w2 e z _ _ S4.gh (r2.mono (g3.gg.trans g4.gg)) r4 hz fun u5 G5 H5 g5 s5 r5 => ?_
    obtain ⟨S5, g5'⟩ := S4.growS g5 s5
    cases r5
    exact ⟨u2, rfl, k _ G5 H5 m4 S5 ((((g1.trans S1.vh g2).trans S2.vh g3').trans S3.vh g4).trans S4.vh g5') q4⟩
theorem jte_chain {op op' : CmpOp} {r r' : R2} {f f' : D → D → Option D} {oa ob oc : Option D} (hr : OpR X (compareOp op) r) (hr' : OpR X (compareOp op') r') (ho : OpD r f) (ho' : OpD r' f') (ha : JE X R ρ a oa) (hb : JE X R ρ b ob) (hc : JE X R ρ c oc)
    (hm : lastMarks [op, op'] [b, c] = false := by with_unfolding_all rfl) : JTE X R ρ (.Compare a [op, op'] [b, c] pos) ((chainO f f' oa ob oc).bind asB) := (jt_chain hr hr' ho ho' ha hb hc hm).imp fun q m h => by
  obtain ⟨z, h0, h00⟩ := lift1 h
  obtain ⟨x, h1, h2⟩ := Option.bind_eq_some_iff.mp h0
  obtain ⟨y, h3, h4⟩ := Option.bind_eq_some_iff.mp h2
  obtain ⟨t, h5, h6⟩ := Option.bind_eq_some_iff.mp h4
  obtain ⟨d, h7, h8⟩ := Option.bind_eq_some_iff.mp h5
  obtain ⟨u, h11, h12⟩ := h00
  refine ⟨x, h1, y, h3, t, by rw [h7, asB_eq h8], ?_⟩
  cases t with
  | true =>
    obtain ⟨z2, h9, h10⟩ := Option.bind_eq_some_iff.mp h6
    exact ⟨z2, h9, u, by rw [h10, asB_eq h11], h12⟩
  | false =>
    cases h6
    cases h11
    exact h12
end
end Dl

set_option Elab.async false
set_option linter.all false
set_option autoImplicit false
set_option maxRecDepth 100000
set_option maxHeartbeats 1000000
namespace Dl
open PySem L2

/-! ### what a body may lean on -/
structure Bx (X : Cx) (k : Nat) : Prop where
  hr : Room k X.A
  hg : X.A.guards = some []
  hc : X.calm = true
  nd : X.N.Nodup
  ps : PassesOwn (model X.prog X.w) X.A X.env X.xe
theorem Bx.blk {X : Cx} {k : Nat} (B : Bx X k) (s : Shared) (H : Hp) (scope : Scope) (cenv : Env) (fp : List Addr) : Bx (X.blk s H scope cenv fp) k := ⟨B.hr, B.hg, B.hc, B.nd, PassesOwn.never⟩
theorem Bx.u64 {X : Cx} {k : Nat} (B : Bx X k) : X.A.units + 64 < cLine := B.hr.units
theorem Bx.u0 {X : Cx} {k : Nat} (B : Bx X k) : X.A.units < cLine := B.hr.units0
theorem Bx.u65 {X : Cx} {k : Nat} (B : Bx X k) : X.A.units + 65 < cLine := by have := B.hr.un; omega
theorem Bx.mono {X : Cx} {j k : Nat} (B : Bx X k) (h : j ≤ k) : Bx X j := ⟨B.hr.mono h, B.hg, B.hc, B.nd, B.ps⟩

/-! ### arguments, displays -/
section
variable {X : Cx} {R : Res} {ρ : List Cell} {e a b c : Expr} {es : List Expr} {pos : Pos} {n : Nat}
theorem ja_nil : JA X R ρ [] 0 (fun q m => q [] m) := PA.imp pa_nil fun _ H _ ⟨G, m, _, S, t, k⟩ => k _ _ G H m S (Grow.refl _ _ _) .nil rfl t
theorem ja_cons {T : M D} {Ts : M (List D)} (ha : JM X R ρ e T) (hs : JA X R ρ es n Ts) (hst : starEach (e :: es) X.env = (false, eval e X.env) :: starEach es X.env := by rfl) :
    JA X R ρ (e :: es) (n + 1) (fun q m => T (fun d m1 => Ts (fun ds m2 => q (d :: ds) m2) m1) m) := by
  refine PA.imp (pa_cons ha hs hst) fun σ H Q ⟨G, m, q, S, t, k⟩ => ⟨G, m, _, S, t, fun v d G1 H1 m1 S1 g1 r1 q1 => ⟨G1, m1, _, S1, q1, fun vs ds G2 H2 m2 S2 g2 r2 l2 q2 => ?_⟩⟩
  exact k _ _ G2 H2 m2 S2 (g1.trans S1.vh g2) (.cons (r1.mono g2.gg) r2) (by simp [l2]) q2
abbrev JAE (X : Cx) (R : Res) (ρ : List Cell) (es : List Expr) (n : Nat) (o : Option (List D)) : Prop := JA X R ρ es n (lift o)
def consO (oa : Option D) (os : Option (List D)) : Option (List D) := oa.bind fun x => os.bind fun xs => some (x :: xs)
theorem jae_nil : JAE X R ρ [] 0 (some []) := ja_nil.imp fun _ _ => lift_some'
theorem jae_cons {oa : Option D} {os : Option (List D)} (ha : JE X R ρ e oa) (hs : JAE X R ρ es n os) (hst : starEach (e :: es) X.env = (false, eval e X.env) :: starEach es X.env := by rfl) : JAE X R ρ (e :: es) (n + 1) (consO oa os) :=
  (ja_cons ha hs hst).imp fun q m h => by
    obtain ⟨x, h1, h2⟩ := lift1 h
    obtain ⟨xs, h3, h4⟩ := lift1 h2
    exact ⟨x, h1, xs, h3, lift_some' h4⟩
theorem jm_tup {Ts : M (List D)} {x1} (h : JA X R ρ es n Ts) (hn : n ≤ 1000) : JM X R ρ (.Tuple es x1 pos) (fun q => Ts fun ds => q (.tuple ds)) := by
  refine PE.imp (pe_tupF h) fun σ H Q ⟨G, m, q, S, t, k⟩ => ⟨G, m, _, S, t, fun vs ds G1 H1 m1 S1 g1 r1 l1 q1 => ⟨?_, fun p o ho hp => ?_⟩⟩
  · rw [r1.length, l1]; exact Nat.le_of_lt (small1000 hn)
  · obtain ⟨g2, s2⟩ := grow_new S1.gh hp (.frz o (.tup vs))
    obtain ⟨S2, g2'⟩ := S1.growS g2 s2
    exact k _ _ _ _ m1 S2 (g1.trans S1.vh g2') (.tup (Tu.new ho) (r1.mono g2.gg)) q1
theorem jl_lst {Ts : M (List D)} (h : JA X R ρ es n Ts) (hn : n ≤ 1000) : JL X R ρ (.List es pos) Ts := by
  refine PE.imp (pe_lst h) fun σ H Q ⟨G, m, q, S, t, k⟩ => ⟨G, m, _, S, t, fun vs ds G1 H1 m1 S1 g1 r1 l1 q1 => ⟨?_, fun p hp => ?_⟩⟩
  · rw [r1.length, l1]; exact Nat.le_of_lt (small1000 hn)
  · obtain ⟨g2, s2⟩ := grow_own S1.gh hp (.lst vs)
    obtain ⟨S2, g2'⟩ := S1.growS g2 s2
    have hp0 : H p = none := by
      cases e : H p with
      | none => rfl
      | some o =>
        by_cases v : R.vol p
        · exact absurd hp (S1.vh p v)
        · rw [g1.hh p o v e] at hp; cases hp
    exact k p vs ds G1 _ m1 S2 (g1.trans S1.vh g2') hp0 (S1.gh.free hp) upd_same r1 q1
theorem jm_dic : JM X R ρ (.Dict [] [] pos) (fun q => q (.dict [])) := by
  refine PE.imp pe_dnewK fun σ H Q ⟨G, m, q, S, t, k⟩ p hp => ?_
  obtain ⟨g2, s2⟩ := grow_new S.gh hp (.dK [])
  obtain ⟨S2, g2'⟩ := S.growS g2 s2
  exact k _ _ _ _ m S2 g2' (.dic upd_same) t
theorem je_dic : JE X R ρ (.Dict [] [] pos) (some (.dict [])) := jm_dic.imp fun q m h => by
  obtain ⟨z, h1, h2⟩ := h
  cases h1
  exact h2
theorem je_tup {os : Option (List D)} {x1} (h : JAE X R ρ es n os) (hn : n ≤ 1000 := by decide) : JE X R ρ (.Tuple es x1 pos) (os.map PyData.tuple) := (jm_tup h hn).imp fun q m ⟨z, h1, h2⟩ => by
  obtain ⟨ds, h3, h4⟩ := Option.map_eq_some_iff.mp h1
  subst h4
  exact ⟨ds, h3, h2⟩
theorem jle_lst {os : Option (List D)} (h : JAE X R ρ es n os) (hn : n ≤ 1000 := by decide) : JLE X R ρ (.List es pos) os := jl_lst h hn
theorem JLE.je {o : Option (List D)} (h : JLE X R ρ e o) : JE X R ρ e (o.map PyData.list) := (JL.jm h).imp fun q m ⟨z, h1, h2⟩ => by
  obtain ⟨ds, h3, h4⟩ := Option.map_eq_some_iff.mp h1
  subst h4
  exact ⟨ds, h3, h2⟩

/-! ### built-ins by their values -/
def CallD (r : List V → Hp → VK → Prop) (F : List D → Option D) : Prop := ∀ (G H : Hp) (vs : List V) (ds : List D) (z : D) (Q : VK), Same G H → RpL G vs ds → F ds = some z →
  (∀ v G' H', Grow (fun _ => False) G H G' H' → Same G' H' → Rp G' v z → Q v H') → r vs H Q
/-- .. a new list -/
def CallDL (r : List V → Hp → VK → Prop) (F : List D → Option (List D)) : Prop := ∀ (G H : Hp) (vs : List V) (ds : List D) (z : List D) (Q : VK), Same G H → RpL G vs ds → F ds = some z →
  (∀ p ws G' H', Grow (fun _ => False) G H G' H' → Same G' H' → H p = none → G' p = none → H' p = some (.lst ws) → RpL G' ws z → Q (.ref p) H') → r vs H Q
theorem call_read {r : List V → Hp → VK → Prop} {F : List D → Option D} {Ts : M (List D)} (hF : CallD r F) (σ : L2.St) (H : Hp) (Q : VK) (h : tJ R ρ (fun q => Ts fun ds => lift (F ds) q) σ H Q) : tCB r (tAs R ρ n Ts) σ H Q := by
  obtain ⟨G, m, q, S, t, k⟩ := h
  refine ⟨G, m, _, S, t, fun vs ds G1 H1 m1 S1 g1 r1 l1 q1 => ?_⟩
  obtain ⟨z, hz, q1⟩ := q1
  refine hF G1 H1 vs ds z Q S1.gh r1 hz fun v G2 H2 g2 s2 r2 => ?_
  obtain ⟨S2, g2'⟩ := S1.growS g2 s2
  exact k v z G2 H2 m1 S2 (g1.trans S1.vh g2') r2 q1
theorem call_readL {r : List V → Hp → VK → Prop} {F : List D → Option (List D)} {Ts : M (List D)} (hF : CallDL r F) (σ : L2.St) (H : Hp) (Q : VK) (h : tL R ρ (fun q => Ts fun ds => lift (F ds) q) σ H Q) : tCB r (tAs R ρ n Ts) σ H Q := by
  obtain ⟨G, m, q, S, t, k⟩ := h
  refine ⟨G, m, _, S, t, fun vs ds G1 H1 m1 S1 g1 r1 l1 q1 => ?_⟩
  obtain ⟨z, hz, q1⟩ := q1
  refine hF G1 H1 vs ds z Q S1.gh r1 hz fun p ws G2 H2 g2 s2 hp gp hp2 r2 => ?_
  obtain ⟨S2, g2'⟩ := S1.growS g2 s2
  exact k p ws z G2 H2 m1 S2 (g1.trans S1.vh g2') (free_of g1 S1.vh hp) gp hp2 r2 q1
variable {x : Str} {id T : String} {p : Pos} {r : List V → Hp → VK → Prop}
theorem jm_callB {F : List D → Option D} {Ts : M (List D)} (hr : CallR X (.builtin id) r) (hF : CallD r F) (hm : X.mg x = none) (hv : bootBuiltins x = some (.builtin id)) (ha : JA X R ρ (e :: es) n Ts) (hg : Gl X x := by rfl) (hn : x ≠ "__name__" := by decide) (hdb : (x == ("__debug__" : Str)) = false := by decide)
    (he : starEach (e :: es) X.env = (false, eval e X.env) :: starEach es X.env := by rfl) (hpl : (backTo pos (starEach es X.env)).any (·.1) = false := by rfl) : JM X R ρ (.Call (.Name x p) (e :: es) [] pos) (fun q => Ts fun ds => lift (F ds) q) :=
  PE.imp (pe_callB hr hg hm hv ha hn hdb he hpl) (call_read hF)
theorem jm_callTy {F : List D → Option D} {Ts : M (List D)} (hr : CallR X (.type T) r) (hF : CallD r F) (hm : X.mg x = none) (hv : bootBuiltins x = some (.type T)) (ha : JA X R ρ (e :: es) n Ts) (hg : Gl X x := by rfl) (hn : x ≠ "__name__" := by decide) (hdb : (x == ("__debug__" : Str)) = false := by decide)
    (he : starEach (e :: es) X.env = (false, eval e X.env) :: starEach es X.env := by rfl) (hpl : (backTo pos (starEach es X.env)).any (·.1) = false := by rfl) : JM X R ρ (.Call (.Name x p) (e :: es) [] pos) (fun q => Ts fun ds => lift (F ds) q) :=
  PE.imp (pe_callTy hr hg hm hv ha hn hdb he hpl) (call_read hF)
theorem jl_callB {F : List D → Option (List D)} {Ts : M (List D)} (hr : CallR X (.builtin id) r) (hF : CallDL r F) (hm : X.mg x = none) (hv : bootBuiltins x = some (.builtin id)) (ha : JA X R ρ (e :: es) n Ts) (hg : Gl X x := by rfl) (hn : x ≠ "__name__" := by decide) (hdb : (x == ("__debug__" : Str)) = false := by decide)
    (he : starEach (e :: es) X.env = (false, eval e X.env) :: starEach es X.env := by rfl) (hpl : (backTo pos (starEach es X.env)).any (·.1) = false := by rfl) : JL X R ρ (.Call (.Name x p) (e :: es) [] pos) (fun q => Ts fun ds => lift (F ds) q) :=
  PE.imp (pe_callB hr hg hm hv ha hn hdb he hpl) (call_readL hF)
theorem jl_callTy {F : List D → Option (List D)} {Ts : M (List D)} (hr : CallR X (.type T) r) (hF : CallDL r F) (hm : X.mg x = none) (hv : bootBuiltins x = some (.type T)) (ha : JA X R ρ (e :: es) n Ts) (hg : Gl X x := by rfl) (hn : x ≠ "__name__" := by decide) (hdb : (x == ("__debug__" : Str)) = false := by decide)
    (he : starEach (e :: es) X.env = (false, eval e X.env) :: starEach es X.env := by rfl) (hpl : (backTo pos (starEach es X.env)).any (·.1) = false := by rfl) : JL X R ρ (.Call (.Name x p) (e :: es) [] pos) (fun q => Ts fun ds => lift (F ds) q) :=
  PE.imp (pe_callTy hr hg hm hv ha hn hdb he hpl) (call_readL hF)
end
/-- one argument, two -/
def F1 {β : Type} (f : D → Option β) : List D → Option β
  | [x] => f x
  | _ => none
def F2 {β : Type} (f : D → D → Option β) : List D → Option β
  | [x, y] => f x y
  | _ => none
def F3 {β : Type} (f : D → D → D → Option β) : List D → Option β
  | [x, y, z] => f x y z
  | _ => none
def F4 {β : Type} (f : D → D → D → D → Option β) : List D → Option β
  | [x, y, z, u] => f x y z u
  | _ => none
def F5 {β : Type} (f : D → D → D → D → D → Option β) : List D → Option β
  | [x, y, z, u, v] => f x y z u v
  | _ => none
def F6 {β : Type} (f : D → D → D → D → D → D → Option β) : List D → Option β
  | [x, y, z, u, v, w] => f x y z u v w
  | _ => none
abbrev C1 {β : Type} (f : D → Option β) (o : Option D) : Option β := o.bind f
abbrev C2 {β : Type} (f : D → D → Option β) (o1 o2 : Option D) : Option β := o1.bind fun x => o2.bind fun y => f x y
abbrev C3 {β : Type} (f : D → D → D → Option β) (o1 o2 o3 : Option D) : Option β := o1.bind fun x => o2.bind fun y => o3.bind fun z => f x y z
abbrev C4 {β : Type} (f : D → D → D → D → Option β) (o1 o2 o3 o4 : Option D) : Option β := o1.bind fun x => o2.bind fun y => o3.bind fun z => o4.bind fun u => f x y z u
abbrev C5 {β : Type} (f : D → D → D → D → D → Option β) (o1 o2 o3 o4 o5 : Option D) : Option β := o1.bind fun x => o2.bind fun y => o3.bind fun z => o4.bind fun u => o5.bind fun v => f x y z u v
abbrev C6 {β : Type} (f : D → D → D → D → D → D → Option β) (o1 o2 o3 o4 o5 o6 : Option D) : Option β := o1.bind fun x => o2.bind fun y => o3.bind fun z => o4.bind fun u => o5.bind fun v => o6.bind fun w => f x y z u v w
theorem c1_eq {β : Type} (f : D → Option β) (o1 : Option D) : (consO o1 (some [])).bind (F1 f) = C1 f o1 := by cases o1 <;> rfl
theorem c2_eq {β : Type} (f : D → D → Option β) (o1 o2 : Option D) : (consO o1 (consO o2 (some []))).bind (F2 f) = C2 f o1 o2 := by cases o1 <;> cases o2 <;> rfl
theorem c3_eq {β : Type} (f : D → D → D → Option β) (o1 o2 o3 : Option D) : (consO o1 (consO o2 (consO o3 (some [])))).bind (F3 f) = C3 f o1 o2 o3 := by cases o1 <;> cases o2 <;> cases o3 <;> rfl
theorem c4_eq {β : Type} (f : D → D → D → D → Option β) (o1 o2 o3 o4 : Option D) : (consO o1 (consO o2 (consO o3 (consO o4 (some []))))).bind (F4 f) = C4 f o1 o2 o3 o4 := by cases o1 <;> cases o2 <;> cases o3 <;> cases o4 <;> rfl
theorem c5_eq {β : Type} (f : D → D → D → D → D → Option β) (o1 o2 o3 o4 o5 : Option D) : (consO o1 (consO o2 (consO o3 (consO o4 (consO o5 (some [])))))).bind (F5 f) = C5 f o1 o2 o3 o4 o5 := by cases o1 <;> cases o2 <;> cases o3 <;> cases o4 <;> cases o5 <;> rfl
theorem c6_eq {β : Type} (f : D → D → D → D → D → D → Option β) (o1 o2 o3 o4 o5 o6 : Option D) : (consO o1 (consO o2 (consO o3 (consO o4 (consO o5 (consO o6 (some []))))))).bind (F6 f) = C6 f o1 o2 o3 o4 o5 o6 := by cases o1 <;> cases o2 <;> cases o3 <;> cases o4 <;> cases o5 <;> cases o6 <;> rfl
theorem JM.eq {X : Cx} {R : Res} {ρ : List Cell} {e : Expr} {o o' : Option D} (h : JE X R ρ e o) (k : o = o') : JE X R ρ e o' := by rw [← k]; exact h
theorem JL.eq {X : Cx} {R : Res} {ρ : List Cell} {e : Expr} {o o' : Option (List D)} (h : JLE X R ρ e o) (k : o = o') : JLE X R ρ e o' := by rw [← k]; exact h
theorem JT.eq {X : Cx} {R : Res} {ρ : List Cell} {e : Expr} {o o' : Option Bool} (h : JTE X R ρ e o) (k : o = o') : JTE X R ρ e o' := by rw [← k]; exact h
/-- a meaning of its arguments, in the pure form -/
theorem liftF {β : Type} {F : List D → Option β} {os : Option (List D)} {q : β → Nat → Prop} {m : Nat} (h : lift (os.bind F) q m) : lift os (fun ds => lift (F ds) q) m := lift1 h

/-! ### the built-ins' meanings -/
def dLen : D → Option D
  | .list xs => some (.int xs.length)
  | .tuple xs => some (.int xs.length)
  | _ => none
theorem cd_len {K : PySem.W.Frag} : CallD (fun xs H Q => ∃ p ys, xs = [.ref p] ∧ (SqL K H p ys ∨ SqT K H p ys) ∧ Q (.int ys.length) H) (F1 dLen) := by
  intro G H vs ds z Q gh r hF k
  cases r with
  | nil => cases hF
  | cons a b =>
    cases b with
    | cons _ _ => cases hF
    | nil =>
      cases a with
      | @lst p vs ds hp r =>
        cases hF
        refine ⟨p, vs, rfl, .inl (SqL.of (gh _ _ hp)), k _ G H (Grow.refl _ _ _) gh ?_⟩
        rw [r.length]; exact .int _
      | @tup p vs ds hp r =>
        cases hF
        refine ⟨p, vs, rfl, .inr ((hp.sqm gh)), k _ G H (Grow.refl _ _ _) gh ?_⟩
        rw [r.length]; exact .int _
      | _ => cases hF
def dInt : D → Option D
  | .int i => some (.int i)
  | .bool b => some (.int (if b then 1 else 0))
  | _ => none
theorem cd_int : CallD (fun xs H Q => (∃ i, xs = [.int i] ∧ Q (.int i) H) ∨ ∃ k, xs = [.bl k] ∧ Q (.int (if k then 1 else 0)) H) (F1 dInt) := by
  intro G H vs ds z Q gh r hF k
  cases r with
  | nil => cases hF
  | cons a b =>
    cases b with
    | cons _ _ => cases hF
    | nil =>
      cases a with
      | int i => cases hF; exact .inl ⟨i, rfl, k _ G H (Grow.refl _ _ _) gh (.int _)⟩
      | bl i => cases hF; exact .inr ⟨i, rfl, k _ G H (Grow.refl _ _ _) gh (.int _)⟩
      | _ => cases hF
def dMax2 : D → D → Option D
  | .int i, .int j => some (.int (if j > i then j else i))
  | _, _ => none
def dMin2 : D → D → Option D
  | .int i, .int j => some (.int (if j < i then j else i))
  | _, _ => none
theorem cd_2i {g : Int → Int → Int} {f : D → D → Option D} (h0 : ∀ i j, f (.int i) (.int j) = some (.int (g i j))) (h1 : ∀ d e z, f d e = some z → ∃ i j, d = .int i ∧ e = .int j) : CallD (fun xs H Q => ∃ i j, xs = [.int i, .int j] ∧ Q (.int (g i j)) H) (F2 f) := by
  intro G H vs ds z Q gh r hF k
  cases r with
  | nil => cases hF
  | cons a b =>
    cases b with
    | nil => cases hF
    | cons b c =>
      cases c with
      | cons _ _ => cases hF
      | nil =>
        obtain ⟨i, j, rfl, rfl⟩ := h1 _ _ _ hF
        rw [show F2 f [.int i, .int j] = f (.int i) (.int j) from rfl, h0] at hF
        cases hF
        cases a
        cases b
        exact ⟨i, j, rfl, k _ G H (Grow.refl _ _ _) gh (.int _)⟩
theorem dMax2_is (d e z : D) (h : dMax2 d e = some z) : ∃ i j, d = .int i ∧ e = .int j := by
  cases d <;> cases e <;> first | (cases h; done) | exact ⟨_, _, rfl, rfl⟩
theorem dMin2_is (d e z : D) (h : dMin2 d e = some z) : ∃ i j, d = .int i ∧ e = .int j := by
  cases d <;> cases e <;> first | (cases h; done) | exact ⟨_, _, rfl, rfl⟩
theorem cd_max2 : CallD (fun xs H Q => ∃ i j, xs = [.int i, .int j] ∧ Q (.int (if j > i then j else i)) H) (F2 dMax2) := cd_2i (fun _ _ => rfl) dMax2_is
theorem cd_min2 : CallD (fun xs H Q => ∃ i j, xs = [.int i, .int j] ∧ Q (.int (if j < i then j else i)) H) (F2 dMin2) := cd_2i (fun _ _ => rfl) dMin2_is
/-- tuple(..) of a list or a tuple, list(..) -/
def dTup : D → Option D
  | .list xs => some (.tuple xs)
  | .tuple xs => some (.tuple xs)
  | _ => none
theorem cd_tuple {K : PySem.W.Frag} : CallD (rTupF K) (F1 dTup) := by
  intro G H vs ds z Q gh r hF k
  cases r with
  | nil => cases hF
  | cons a b =>
    cases b with
    | cons _ _ => cases hF
    | nil =>
      cases a with
      | @lst p vs ds hp r =>
        cases hF
        refine ⟨p, vs, rfl, .inl ⟨SqL.of (gh _ _ hp), fun l o ho hl => ?_⟩⟩
        obtain ⟨g, s⟩ := grow_new gh hl (.frz o (.tup vs))
        exact k _ _ _ g s (.tup (Tu.new ho) (r.mono g.gg))
      | @tup p vs ds hp r =>
        cases hF
        exact ⟨p, vs, rfl, .inr ⟨(hp.sqm gh), k _ G H (Grow.refl _ _ _) gh (.tup hp r)⟩⟩
      | _ => cases hF
def dItems : D → Option (List D)
  | .list xs => some xs
  | .tuple xs => some xs
  | _ => none
theorem cd_list {K : PySem.W.Frag} : CallDL (fun xs H Q => ∃ p ys, xs = [.ref p] ∧ (SqL K H p ys ∨ SqT K H p ys) ∧ ∀ l, H l = none → Q (.ref l) (upd H l (.lst ys))) (F1 dItems) := by
  intro G H vs ds z Q gh r hF k
  cases r with
  | nil => cases hF
  | cons a b =>
    cases b with
    | cons _ _ => cases hF
    | nil =>
      cases a with
      | @lst p vs ds hp r =>
        cases hF
        refine ⟨p, vs, rfl, .inl (SqL.of (gh _ _ hp)), fun l hl => ?_⟩
        obtain ⟨g, s⟩ := grow_own gh hl (.lst vs)
        exact k l vs G _ g s hl (gh.free hl) upd_same r
      | @tup p vs ds hp r =>
        cases hF
        refine ⟨p, vs, rfl, .inr ((hp.sqm gh)), fun l hl => ?_⟩
        obtain ⟨g, s⟩ := grow_own gh hl (.lst vs)
        exact k l vs G _ g s hl (gh.free hl) upd_same r
      | _ => cases hF
/-- all(..), any(..), sum(..) of a list -/
def blsOf : List D → Option (List Bool)
  | [] => some []
  | .bool b :: r => (blsOf r).map (b :: ·)
  | _ => none
theorem blsOf_eq : ∀ {ds : List D} {bs : List Bool}, blsOf ds = some bs → ds = bs.map PyData.bool
  | [], ns, h => by cases h; rfl
  | .bool i :: r, ns, h => by
    simp only [blsOf, Option.map_eq_some_iff] at h
    obtain ⟨k, h1, rfl⟩ := h
    rw [blsOf_eq h1]; rfl
  | .none :: _, _, h => by cases h
  | .int _ :: _, _, h => by cases h
  | .str _ :: _, _, h => by cases h
  | .list _ :: _, _, h => by cases h
  | .tuple _ :: _, _, h => by cases h
  | .dict _ :: _, _, h => by cases h
theorem blsOf_map : ∀ (bs : List Bool), blsOf (bs.map PyData.bool) = some bs
  | [] => rfl
  | n :: r => by simp [blsOf, blsOf_map r]
theorem RpL.bls {G : Hp} : ∀ {ns : List Bool} {vs : List V}, RpL G vs (ns.map PyData.bool) → vs = ns.map V.bl
  | [], _, h => by cases h; rfl
  | n :: ns, _, h => by
    cases h with
    | cons a b => cases a; rw [RpL.bls b]; rfl
def dAny : D → Option D
  | .list xs => (blsOf xs).map fun bs => .bool (bs.any id)
  | _ => none
def dAll : D → Option D
  | .list xs => (blsOf xs).map fun bs => .bool (bs.all id)
  | _ => none
def dSum : D → Option D
  | .list xs => (intsOf xs).map fun ns => .int ns.sum
  | .tuple xs => (intsOf xs).map fun ns => .int ns.sum
  | _ => none
theorem cd_any {K : PySem.W.Frag} : CallD (rAny K) (F1 dAny) := by
  intro G H vs ds z Q gh r hF k
  cases r with
  | nil => cases hF
  | cons a b =>
    cases b with
    | cons _ _ => cases hF
    | nil =>
      cases a with
      | @lst p vs ds hp r =>
        obtain ⟨bs, h1, rfl⟩ := Option.map_eq_some_iff.mp (show (blsOf ds).map _ = some z from hF)
        have e := blsOf_eq h1
        subst e
        have e := r.bls
        subst e
        exact ⟨p, bs, rfl, SqL.of (gh _ _ hp), k _ G H (Grow.refl _ _ _) gh (.bl _)⟩
      | _ => cases hF
theorem cd_all {K : PySem.W.Frag} : CallD (rAll K) (F1 dAll) := by
  intro G H vs ds z Q gh r hF k
  cases r with
  | nil => cases hF
  | cons a b =>
    cases b with
    | cons _ _ => cases hF
    | nil =>
      cases a with
      | @lst p vs ds hp r =>
        obtain ⟨bs, h1, rfl⟩ := Option.map_eq_some_iff.mp (show (blsOf ds).map _ = some z from hF)
        have e := blsOf_eq h1
        subst e
        have e := r.bls
        subst e
        exact ⟨p, bs, rfl, SqL.of (gh _ _ hp), k _ G H (Grow.refl _ _ _) gh (.bl _)⟩
      | _ => cases hF

/-! ### isinstance -/
def tyOf : D → String
  | .none => "NoneType" | .bool _ => "bool" | .int _ => "int" | .str _ => "str" | .list _ => "list" | .tuple _ => "tuple" | .dict _ => "dict"
def isTyS (c t : String) : Bool := t == c || (c == "int" && t == "bool")
def isTy (c : String) (d : D) : Bool := isTyS c (tyOf d)
theorem kit_tab : (["NoneType", "bool", "int", "str", "list", "tuple", "dict"].all fun t => ["int", "bool", "str", "list", "tuple", "dict"].all fun c => kitB t c == some (isTyS c t)) = true := by decide +kernel
theorem tyOf_mem (d : D) : tyOf d ∈ ["NoneType", "bool", "int", "str", "list", "tuple", "dict"] := by cases d <;> simp [tyOf]
def clsOk (c : String) : Bool := c == "int" || c == "bool" || c == "str" || c == "list" || c == "tuple" || c == "dict"
theorem kit_d {K : PySem.W.Frag} (d : D) {c : String} (h : clsOk c = true) : PySem.W.kitOne K (.type (tyOf d)) (.type c) = some (isTy c d) := by
  have hc : c ∈ ["int", "bool", "str", "list", "tuple", "dict"] := by
    simp only [clsOk, Bool.or_eq_true, beq_iff_eq] at h
    simp only [List.mem_cons, List.not_mem_nil, or_false]
    rcases h with ((((h | h) | h) | h) | h) | h <;> simp [h]
  exact kit_ty (beq_iff_eq.mp (List.all_eq_true.mp (List.all_eq_true.mp kit_tab _ (tyOf_mem d)) _ hc))
theorem tyx_of {K : PySem.W.Frag} {G H : Hp} {v : V} {d : D} (gh : Same G H) (r : Rp G v d) : TyX K H v (.type (tyOf d)) := by
  cases r with
  | non => exact .base .non
  | bl b => exact .base (.bl b)
  | int i => exact .base (.int i)
  | str z => exact .base (.str z)
  | lst h _ => exact .base (.lst (gh _ _ h))
  | tup h _ =>
    obtain ⟨o, _, h⟩ := h
    exact .fTuple (gh _ _ h)
  | dic h => exact .base (.dK (gh _ _ h))
section
variable {X : Cx} {R : Res} {ρ : List Cell} {e a b c : Expr} {pos p p2 p3 : Pos} {T : M D} {c1 c2 : Str} {n1 n2 : String}
theorem jm_isi (ha : JM X R ρ a T) (hm : X.mg "isinstance" = none) (hm1 : X.mg c1 = none) (hv1 : bootBuiltins c1 = some (.type n1)) (hc : clsOk n1 = true) (hg : Gl X "isinstance" := by rfl) (hg1 : Gl X c1 := by rfl) (hn1 : c1 ≠ "__name__" := by decide) (hd1 : (c1 == ("__debug__" : Str)) = false := by decide)
    (hs : starEach [a, .Name c1 p2] X.env = (false, eval a X.env) :: starEach [.Name c1 p2] X.env := by rfl) (hs2 : starEach [.Name c1 p2] X.env = (false, eval (.Name c1 p2) X.env) :: starEach [] X.env := by rfl) (hpl : (backTo pos (starEach [.Name c1 p2] X.env)).any (·.1) = false := by rfl) :
    JM X R ρ (.Call (.Name "isinstance" p) [a, .Name c1 p2] [] pos) (fun q => T fun d => q (.bool (isTy n1 d))) := by
  refine PE.imp (pe_callB call_isi hg hm (by decide +kernel) (pa_cons ha (pa_cons (pe_bltn (v := .ty n1) hg1 hm1 hv1 rfl hn1 hd1) pa_nil hs2) hs) (by decide) (by decide) hs hpl) fun σ H Q ⟨G, m, q, S, t, k⟩ => ⟨G, m, _, S, t, fun v d G1 H1 m1 S1 g1 r1 q1 => ?_⟩
  exact ⟨v, .ty n1, .type (tyOf d), .type n1, _, rfl, .ty n1, tyx_of S1.gh r1, kit_d d hc, k _ _ G1 H1 m1 S1 g1 (.bl _) q1⟩
theorem jm_isi2 (ha : JM X R ρ a T) (hm : X.mg "isinstance" = none) (hm1 : X.mg c1 = none) (hv1 : bootBuiltins c1 = some (.type n1)) (hc : clsOk n1 = true) (hm2 : X.mg c2 = none) (hv2 : bootBuiltins c2 = some (.type n2)) (hc2 : clsOk n2 = true) (hg : Gl X "isinstance" := by rfl)
    (hg1 : Gl X c1 := by rfl) (hn1 : c1 ≠ "__name__" := by decide) (hd1 : (c1 == ("__debug__" : Str)) = false := by decide) (hg2 : Gl X c2 := by rfl) (hn2 : c2 ≠ "__name__" := by decide) (hd2 : (c2 == ("__debug__" : Str)) = false := by decide) {x1 : Nat} {p4 : Pos}
    (hs : starEach [a, .Tuple [.Name c1 p2, .Name c2 p3] x1 p4] X.env = (false, eval a X.env) :: starEach [.Tuple [.Name c1 p2, .Name c2 p3] x1 p4] X.env := by rfl) (hs2 : starEach [.Tuple [.Name c1 p2, .Name c2 p3] x1 p4] X.env = (false, eval (.Tuple [.Name c1 p2, .Name c2 p3] x1 p4) X.env) :: starEach [] X.env := by rfl)
    (hs3 : starEach [.Name c1 p2, .Name c2 p3] X.env = (false, eval (.Name c1 p2) X.env) :: starEach [.Name c2 p3] X.env := by rfl) (hs4 : starEach [.Name c2 p3] X.env = (false, eval (.Name c2 p3) X.env) :: starEach [] X.env := by rfl)
    (hpl : (backTo pos (starEach [.Tuple [.Name c1 p2, .Name c2 p3] x1 p4] X.env)).any (·.1) = false := by rfl) :
    JM X R ρ (.Call (.Name "isinstance" p) [a, .Tuple [.Name c1 p2, .Name c2 p3] x1 p4] [] pos) (fun q => T fun d => q (.bool (isTy n1 d || isTy n2 d))) := by
  refine PE.imp (pe_callB call_isiT hg hm (by decide +kernel) (pa_cons ha (pa_cons (pe_tup (pa_cons (pe_bltn (v := .ty n1) hg1 hm1 hv1 rfl hn1 hd1) (pa_cons (pe_bltn (v := .ty n2) hg2 hm2 hv2 rfl hn2 hd2) pa_nil hs4) hs3)) pa_nil hs2) hs) (by decide) (by decide) hs hpl)
    fun σ H Q ⟨G, m, q, S, t, k⟩ => ⟨G, m, _, S, t, fun v d G1 H1 m1 S1 g1 r1 q1 => ⟨(by show 2 ≤ sizeLine; decide), fun tp htp => ?_⟩⟩
  obtain ⟨g2, s2⟩ := grow_new S1.gh htp (.tup [.ty n1, .ty n2])
  obtain ⟨S2, g2'⟩ := S1.growS g2 s2
  refine ⟨v, tp, _, .type (tyOf d), [.type n1, .type n2], _, rfl, upd_same, .cons (.ty n1) (.cons (.ty n2) .nil), tyx_of S2.gh (r1.mono g2.gg), ?_, k _ _ _ _ m1 S2 (g1.trans S1.vh g2') (.bl _) q1⟩
  refine kitAny_cons (kit_d d hc) (fun h1 => kitAny_cons (kit_d d hc2) (fun h2 => ?_) fun h2 => ?_) fun h1 => ?_
  · rw [kitAny_nil, h1, h2]; rfl
  · rw [h1, h2]; rfl
  · rw [h1]; rfl
theorem je_isi {o : Option D} (ha : JE X R ρ a o) (hm : X.mg "isinstance" = none) (hm1 : X.mg c1 = none) (hv1 : bootBuiltins c1 = some (.type n1)) (hc : clsOk n1 = true) (hg : Gl X "isinstance" := by rfl) (hg1 : Gl X c1 := by rfl) (hn1 : c1 ≠ "__name__" := by decide) (hd1 : (c1 == ("__debug__" : Str)) = false := by decide)
    (hs : starEach [a, .Name c1 p2] X.env = (false, eval a X.env) :: starEach [.Name c1 p2] X.env := by rfl) (hs2 : starEach [.Name c1 p2] X.env = (false, eval (.Name c1 p2) X.env) :: starEach [] X.env := by rfl) (hpl : (backTo pos (starEach [.Name c1 p2] X.env)).any (·.1) = false := by rfl) :
    JE X R ρ (.Call (.Name "isinstance" p) [a, .Name c1 p2] [] pos) (o.map fun d => .bool (isTy n1 d)) := (jm_isi ha hm hm1 hv1 hc hg hg1 hn1 hd1 hs hs2 hpl).imp fun q m ⟨z, h1, h2⟩ => by
  obtain ⟨d, h3, h4⟩ := Option.map_eq_some_iff.mp h1
  subst h4
  exact ⟨d, h3, h2⟩
theorem je_isi2 {o : Option D} (ha : JE X R ρ a o) (hm : X.mg "isinstance" = none) (hm1 : X.mg c1 = none) (hv1 : bootBuiltins c1 = some (.type n1)) (hc : clsOk n1 = true) (hm2 : X.mg c2 = none) (hv2 : bootBuiltins c2 = some (.type n2)) (hc2 : clsOk n2 = true) (hg : Gl X "isinstance" := by rfl)
    (hg1 : Gl X c1 := by rfl) (hn1 : c1 ≠ "__name__" := by decide) (hd1 : (c1 == ("__debug__" : Str)) = false := by decide) (hg2 : Gl X c2 := by rfl) (hn2 : c2 ≠ "__name__" := by decide) (hd2 : (c2 == ("__debug__" : Str)) = false := by decide) {x1 : Nat} {p4 : Pos}
    (hs : starEach [a, .Tuple [.Name c1 p2, .Name c2 p3] x1 p4] X.env = (false, eval a X.env) :: starEach [.Tuple [.Name c1 p2, .Name c2 p3] x1 p4] X.env := by rfl) (hs2 : starEach [.Tuple [.Name c1 p2, .Name c2 p3] x1 p4] X.env = (false, eval (.Tuple [.Name c1 p2, .Name c2 p3] x1 p4) X.env) :: starEach [] X.env := by rfl)
    (hs3 : starEach [.Name c1 p2, .Name c2 p3] X.env = (false, eval (.Name c1 p2) X.env) :: starEach [.Name c2 p3] X.env := by rfl) (hs4 : starEach [.Name c2 p3] X.env = (false, eval (.Name c2 p3) X.env) :: starEach [] X.env := by rfl)
    (hpl : (backTo pos (starEach [.Tuple [.Name c1 p2, .Name c2 p3] x1 p4] X.env)).any (·.1) = false := by rfl) :
    JE X R ρ (.Call (.Name "isinstance" p) [a, .Tuple [.Name c1 p2, .Name c2 p3] x1 p4] [] pos) (o.map fun d => .bool (isTy n1 d || isTy n2 d)) := (jm_isi2 ha hm hm1 hv1 hc hm2 hv2 hc2 hg hg1 hn1 hd1 hg2 hn2 hd2 hs hs2 hs3 hs4 hpl).imp fun q m ⟨z, h1, h2⟩ => by
  obtain ⟨d, h3, h4⟩ := Option.map_eq_some_iff.mp h1
  subst h4
  exact ⟨d, h3, h2⟩
end
end Dl

set_option Elab.async false
set_option linter.all false
set_option autoImplicit false
set_option maxRecDepth 100000
set_option maxHeartbeats 1000000
namespace Dl
open PySem L2

/-! ### stores to slots -/
section
variable {R : Res} {σ : L2.St} {ρ : List Cell} {G H : Hp} {m : Nat}
theorem own_set {ρ : List Cell} {i j : Nat} {c : Cell} {ds : List D} (hc : ∀ ds, c ≠ .own ds) (h : (ρ.set i c)[j]? = some (.own ds)) : j ≠ i ∧ ρ[j]? = some (.own ds) := by
  by_cases e : i = j
  · subst e
    by_cases hl : i < ρ.length
    · rw [List.getElem?_set_self hl] at h
      exact absurd (Option.some.inj h) (hc ds)
    · rw [List.getElem?_eq_none (by simpa using hl)] at h; cases h
  · rw [List.getElem?_set_ne e] at h
    exact ⟨fun z => e z.symm, h⟩
theorem Sit.setC (S : Sit R σ ρ G H m) (i : Nat) (o : Option V) (c : Cell) (hc : ∀ ds, c ≠ .own ds) (h : CellR R G H (some o) c) : Sit R (σ.set i o) (ρ.set i c) G H m := by
  refine ⟨S.toSat, by simp [S.len], fun j d e => ?_, fun j k ds es l e1 e2 e3 e4 => ?_⟩
  · by_cases hj : i = j
    · subst hj
      by_cases hl : i < ρ.length
      · rw [List.getElem?_set_self hl] at e
        cases e
        rw [List.getElem?_set_self (by rw [S.len]; exact hl)]
        exact h
      · rw [List.getElem?_eq_none (by simpa using hl)] at e; cases e
    · rw [List.getElem?_set_ne hj] at e ⊢
      exact S.cell j d e
  · obtain ⟨n1, e1⟩ := own_set hc e1
    obtain ⟨n2, e2⟩ := own_set hc e2
    rw [List.getElem?_set_ne (Ne.symm n1)] at e3
    rw [List.getElem?_set_ne (Ne.symm n2)] at e4
    exact S.apart j k ds es l e1 e2 e3 e4
theorem Sit.setD (S : Sit R σ ρ G H m) (i : Nat) {v : V} {d : D} (r : Rp G v d) : Sit R (σ.set i (some v)) (ρ.set i (.dat d)) G H m :=
  S.setC i _ _ (fun _ z => nomatch z) ⟨v, rfl, r⟩
/-- a new list, nobody else's, to a slot -/
theorem Sit.setO (S : Sit R σ ρ G H m) (i : Nat) {l : Addr} {vs : List V} {ds : List D} (gl : G l = none) (nv : ¬ R.vol l) (en : R.ent l = none) (hl : H l = some (.lst vs)) (r : RpL G vs ds)
    (new : ∀ (j : Nat) (es : List D), ρ[j]? = some (.own es) → σ[j]? ≠ some (some (.ref l))) : Sit R (σ.set i (some (.ref l))) (ρ.set i (.own ds)) G H m := by
  refine ⟨S.toSat, by simp [S.len], fun j d e => ?_, fun j k es fs l' e1 e2 e3 e4 => ?_⟩
  · by_cases hj : i = j
    · subst hj
      by_cases hi : i < ρ.length
      · rw [List.getElem?_set_self hi] at e
        cases e
        rw [List.getElem?_set_self (by rw [S.len]; exact hi)]
        exact ⟨l, vs, rfl, gl, nv, en, hl, r⟩
      · rw [List.getElem?_eq_none (by simpa using hi)] at e; cases e
    · rw [List.getElem?_set_ne hj] at e ⊢
      exact S.cell j d e
  · by_cases h1 : i = j
    · by_cases h2 : i = k
      · rw [← h1, ← h2]
      · subst h1
        rw [List.getElem?_set_ne h2] at e2 e4
        by_cases hi : i < σ.length
        · rw [List.getElem?_set_self hi] at e3
          cases e3
          exact absurd e4 (new k fs e2)
        · rw [List.getElem?_eq_none (by simpa using hi)] at e3; cases e3
    · by_cases h2 : i = k
      · subst h2
        rw [List.getElem?_set_ne h1] at e1 e3
        by_cases hi : i < σ.length
        · rw [List.getElem?_set_self hi] at e4
          cases e4
          exact absurd e3 (new j es e1)
        · rw [List.getElem?_eq_none (by simpa using hi)] at e4; cases e4
      · rw [List.getElem?_set_ne h1] at e1 e3
        rw [List.getElem?_set_ne h2] at e2 e4
        exact S.apart j k es fs l' e1 e2 e3 e4
/-- an owned list is written -/
theorem Sit.write (S : Sit R σ ρ G H m) {i : Nat} {l : Addr} {ds es : List D} {vs : List V} (hρ : ρ[i]? = some (.own ds)) (hσ : σ[i]? = some (some (.ref l))) (r : RpL G vs es) :
    Sit R σ (ρ.set i (.own es)) G (upd H l (.lst vs)) m ∧ ∀ {G0 H0 : Hp}, H0 l = none → Grow R.vol G0 H0 G H → Grow R.vol G0 H0 G (upd H l (.lst vs)) := by
  obtain ⟨l', ws, e, gl, nv, en, hl, _⟩ := S.ownT hρ
  rw [hσ] at e
  cases e
  have hi : i < ρ.length := (List.getElem?_eq_some_iff.mp hρ).1
  refine ⟨⟨⟨fun a o h => ?_, S.vg, fun a v => ?_, S.js, R.dm (fun a v => upd_ne fun z => nv (z ▸ v)) S.jd, fun p hp => ?_⟩, by simp [S.len], fun j c e => ?_, fun j k fs gs l' e1 e2 e3 e4 => ?_⟩, fun h0 g => ⟨g.gg, fun a o n h => ?_, g.new⟩⟩
  · rw [upd_ne (ne_of_none h gl)]; exact S.gh a o h
  · by_cases z : a = l
    · subst z; rw [upd_same]; exact fun z => nomatch z
    · rw [upd_ne z]; exact S.vh a v
  · by_cases z : p = l
    · rw [z]; exact en
    · rw [upd_ne z] at hp; exact S.en p hp
  · by_cases hj : i = j
    · subst hj
      rw [List.getElem?_set_self hi] at e
      cases e
      exact ⟨l, vs, hσ, gl, nv, en, upd_same, r⟩
    · rw [List.getElem?_set_ne hj] at e
      have q := S.cell j c e
      cases c with
      | no => trivial
      | dat d => exact q
      | raw v => exact q
      | own fs =>
        obtain ⟨l2, vs2, q1, q2, q3, q6, q4, q5⟩ := q
        refine ⟨l2, vs2, q1, q2, q3, q6, ?_, q5⟩
        rw [upd_ne (fun z => hj (S.apart i j ds fs l hρ e hσ (by rw [q1, z])))]
        exact q4
  · have h1 : ∃ es, ρ[j]? = some (.own es) := by
      by_cases z : i = j
      · subst z; exact ⟨_, hρ⟩
      · rw [List.getElem?_set_ne z] at e1; exact ⟨_, e1⟩
    have h2 : ∃ es, ρ[k]? = some (.own es) := by
      by_cases z : i = k
      · subst z; exact ⟨_, hρ⟩
      · rw [List.getElem?_set_ne z] at e2; exact ⟨_, e2⟩
    obtain ⟨_, h1⟩ := h1
    obtain ⟨_, h2⟩ := h2
    exact S.apart j k _ _ l' h1 h2 e3 e4
  · rw [upd_ne (ne_of_none h h0)]; exact g.hh a o n h
/-- cells forgotten -/
inductive Wk : List Cell → List Cell → Prop
  | nil : Wk [] []
  | same {c : Cell} {ρ ρ' : List Cell} : Wk ρ ρ' → Wk (c :: ρ) (c :: ρ')
  | no {c : Cell} {ρ ρ' : List Cell} : Wk ρ ρ' → Wk (c :: ρ) (.no :: ρ')
theorem Wk.len {ρ ρ' : List Cell} (h : Wk ρ ρ') : ρ.length = ρ'.length := by induction h <;> simp [*]
theorem Wk.at {ρ ρ' : List Cell} (h : Wk ρ ρ') : ∀ (i : Nat) (c : Cell), ρ'[i]? = some c → c = .no ∨ ρ[i]? = some c := by
  induction h with
  | nil => intro i c e; simp at e
  | same _ ih =>
    intro i c e
    cases i with
    | zero => exact .inr e
    | succ i => exact ih i c (by simpa using e)
  | no _ ih =>
    intro i c e
    cases i with
    | zero => simp at e; exact .inl e.symm
    | succ i => exact ih i c (by simpa using e)
theorem Sit.weak {ρ' : List Cell} (S : Sit R σ ρ G H m) (w : Wk ρ ρ') : Sit R σ ρ' G H m :=
  ⟨S.toSat, S.len.trans w.len, fun i c e => by
    rcases w.at i c e with rfl | h
    · trivial
    · exact S.cell i c h, fun i j ds es l e1 e2 => by
    rcases w.at i _ e1 with h1 | h1
    · cases h1
    · rcases w.at j _ e2 with h2 | h2
      · cases h2
      · exact S.apart i j ds es l h1 h2⟩
/-- the block's own slots forgotten -/
def wipeC (ρ : List Cell) : List Nat → List Cell
  | [] => ρ
  | v :: vs => (wipeC ρ vs).set v .no
theorem Sit.wipe (S : Sit R σ ρ G H m) : ∀ vs : List Nat, Sit R (wipe σ vs) (wipeC ρ vs) G H m
  | [] => S
  | v :: vs => (Sit.wipe S vs).setC v none .no (fun _ z => nomatch z) trivial
theorem wipe_at (σ : L2.St) : ∀ (vs : List Nat) (j : Nat), j < σ.length → j ∈ vs → (wipe σ vs)[j]? = some none
  | [], _, _, h => absurd h (by simp)
  | v :: vs, j, hl, h => by
    unfold L2.wipe
    by_cases e : v = j
    · subst e
      rw [List.getElem?_set_self (by rw [wipe_length]; exact hl)]
    · rw [List.getElem?_set_ne e]
      exact wipe_at σ vs j hl (by rcases List.mem_cons.mp h with z | z; exact absurd z.symm e; exact z)
theorem wipe_off (σ : L2.St) : ∀ (vs : List Nat) (j : Nat), j ∉ vs → (wipe σ vs)[j]? = σ[j]?
  | [], _, _ => rfl
  | v :: vs, j, h => by
    unfold L2.wipe
    rw [List.getElem?_set_ne (fun z => h (by simp [z]))]
    exact wipe_off σ vs j fun z => h (by simp [z])
theorem wipe_eq {σ σ2 : L2.St} {vs : List Nat} (hl : σ2.length = σ.length) (h : ∀ j, j ∉ vs → σ2[j]? = (wipe σ vs)[j]?) : wipe σ2 vs = wipe σ vs := by
  refine List.ext_getElem? fun j => ?_
  by_cases hj : j ∈ vs
  · by_cases hlt : j < σ.length
    · rw [wipe_at σ2 vs j (by omega) hj, wipe_at σ vs j hlt hj]
    · rw [List.getElem?_eq_none (by rw [wipe_length]; omega), List.getElem?_eq_none (by rw [wipe_length]; omega)]
  · rw [wipe_off σ2 vs j hj]; exact h j hj
end

/-! ### targets -/
/-- what a target gets: a value that stands for the datum; a tuple that is taken apart at once may be any -/
def ItR (tg : Expr) (G : Hp) (v : V) (d : D) : Prop := Rp G v d ∨ ((∃ es k pos, tg = Expr.Tuple es k pos) ∧ ∃ p vs es, v = .ref p ∧ G p = some (.tup vs) ∧ d = .tuple es ∧ RpL G vs es)
theorem ItR.mono {tg : Expr} {G G' : Hp} {v : V} {d : D} (h : ItR tg G v d) (e : Same G G') : ItR tg G' v d := by
  rcases h with h | ⟨t, p, vs, es, rfl, h, rfl, r⟩
  · exact .inl (h.mono e)
  · exact .inr ⟨t, p, vs, es, rfl, e _ _ h, rfl, r.mono e⟩
def tG (R : Res) (tg : Expr) (sl : List Nat) (bd : List Cell → D → Option (List Cell)) : TG := fun v σ H Q => ∃ G m d ρ ρ', Sit R σ ρ G H m ∧ ItR tg G v d ∧ bd ρ d = some ρ' ∧ ∀ σ', Sit R σ' ρ' G H m → σ'.length = σ.length → (∀ j, j ∉ sl → σ'[j]? = σ[j]?) → Q σ' H
def tGs (R : Res) (sl : List Nat) (bd : List Cell → List D → Option (List Cell)) : TGs := fun vs σ H Q => ∃ G m ds ρ ρ', Sit R σ ρ G H m ∧ RpL G vs ds ∧ bd ρ ds = some ρ' ∧ ∀ σ', Sit R σ' ρ' G H m → σ'.length = σ.length → (∀ j, j ∉ sl → σ'[j]? = σ[j]?) → Q σ' H
def JG (X : Cx) (R : Res) (tg : Expr) (sl : List Nat) (bd : List Cell → D → Option (List Cell)) : Prop := PG X tg (tG R tg sl bd)
def JGs (X : Cx) (R : Res) (tgs : List Expr) (sl : List Nat) (bd : List Cell → List D → Option (List Cell)) : Prop := PGs X tgs (tGs R sl bd)
theorem PG.imp {X : Cx} {tg : Expr} {t t' : TG} (h : PG X tg t) (k : ∀ v σ H Q, t' v σ H Q → t v σ H Q) : PG X tg t' := ⟨fun pins s σ H v u Q I r q => h.run pins s σ H v u Q I r (k v σ H Q q)⟩
theorem PGs.imp {X : Cx} {tg : List Expr} {t t' : TGs} (h : PGs X tg t) (k : ∀ v σ H Q, t' v σ H Q → t v σ H Q) : PGs X tg t' := ⟨fun pins s σ H v u Q I r q => h.run pins s σ H v u Q I r (k v σ H Q q)⟩
def bd1 (i : Nat) (ρ : List Cell) (d : D) : Option (List Cell) := some (ρ.set i (.dat d))
def bds : List Nat → List Cell → List D → Option (List Cell)
  | [], ρ, [] => some ρ
  | i :: is, ρ, d :: ds => bds is (ρ.set i (.dat d)) ds
  | _, _, _ => none
def bdT (is : List Nat) (ρ : List Cell) : D → Option (List Cell)
  | .tuple ds => bds is ρ ds
  | _ => none
section
variable {X : Cx} {R : Res} {pos : Pos}
theorem jg_name {i : Nat} {x : Str} (hN : X.N.Nodup) (hi : X.N[i]? = some x := by rfl) (hx : Loc X.env.scope x := by first | exact Or.inl rfl | exact Or.inr rfl) (hf : X.fn x = true ∨ X.env.scope.names.lookup x = some .local := by first | exact .inl rfl | exact .inr rfl) : JG X R (.Name x pos) [i] (bd1 i) :=
  PG.imp (pg_name (i := i) hN hi hx hf) fun v σ H Q ⟨G, m, d, ρ, ρ', S, r, e, k⟩ => by
    cases e
    have r : Rp G v d := by
      rcases r with r | ⟨⟨_, _, _, t⟩, _⟩
      · exact r
      · cases t
    exact k _ (S.setD i r) (by simp) fun j hj => List.getElem?_set_ne (fun z => hj (by simp [z]))
theorem jgs_nil : JGs X R [] [] (bds []) := PGs.imp pgs_nil fun vs σ H Q ⟨G, m, ds, ρ, ρ', S, r, e, k⟩ => by
  cases ds with
  | nil =>
    cases e
    cases r
    exact ⟨rfl, k _ S rfl fun _ _ => rfl⟩
  | cons _ _ => cases e
theorem jgs_cons {i : Nat} {is : List Nat} {e : Expr} {es : List Expr} (h1 : JG X R e [i] (bd1 i)) (h2 : JGs X R es is (bds is)) (hs : (assignEach (e :: es) X.env).map (·.2) = assign e X.env :: (assignEach es X.env).map (·.2) := by rfl) : JGs X R (e :: es) (i :: is) (bds (i :: is)) :=
  PGs.imp (pgs_cons h1 h2 hs) fun vs σ H Q ⟨G, m, ds, ρ, ρ', S, r, eb, k⟩ => by
    cases ds with
    | nil => cases eb
    | cons d ds =>
      cases r with
      | @cons v vs _ _ a b =>
        refine ⟨v, vs, rfl, G, m, d, ρ, _, S, .inl a, rfl, fun σ1 S1 l1 f1 => ⟨G, m, ds, _, ρ', S1, b, eb, fun σ2 S2 l2 f2 => k σ2 S2 (l2.trans l1) fun j hj => ?_⟩⟩
        rw [f2 j (fun z => hj (List.mem_cons_of_mem _ z)), f1 j (fun z => hj (by simp at z; simp [z]))]
theorem jg_tup {es : List Expr} {k n : Nat} {is : List Nat} (hc : X.calm = true) (h : JGs X R es is (bds is)) (hl : is.length = n := by rfl) (hn : (assignEach es X.env).length = n := by rfl) (hst : (assignEach es X.env).findIdx? (·.1) = none := by rfl) : JG X R (.Tuple es k pos) is (bdT is) :=
  PG.imp (pg_tup hc h hn hst) fun v σ H Q ⟨G, m, d, ρ, ρ', S, r, e, k⟩ => by
    have key : ∀ {is : List Nat} {ρ ρ' : List Cell} {ds : List D}, bds is ρ ds = some ρ' → ds.length = is.length := by
      intro is
      induction is with
      | nil => intro ρ ρ' ds e; cases ds with | nil => rfl | cons _ _ => cases e
      | cons i is ih => intro ρ ρ' ds e; cases ds with | nil => cases e | cons d ds => simp [ih (show bds is (ρ.set i (.dat d)) ds = some ρ' from e)]
    rcases r with r | ⟨_, p, vs, ds, rfl, hp, rfl, r⟩
    · cases r with
      | @tup p vs ds hp r =>
        refine ⟨p, vs, rfl, hp.sqm S.gh, ?_, G, m, ds, ρ, ρ', S, r, e, k⟩
        rw [r.length, key (show bds is ρ ds = some ρ' from e), hl]
      | _ => cases e
    · refine ⟨p, vs, rfl, SqT.of (S.gh _ _ hp), ?_, G, m, ds, ρ, ρ', S, r, e, k⟩
      rw [r.length, key (show bds is ρ ds = some ρ' from e), hl]
end

/-! ### what is walked -/
/-- what a turn brings -/
def Yl (tg : Expr) (G H : Hp) (x : V) (H' : Hp) (d : D) : Prop := (H' = H ∧ Rp G x d) ∨ ((∃ es k pos, tg = Expr.Tuple es k pos) ∧ ∃ p vs es, x = .ref p ∧ H p = none ∧ H' = upd H p (.tup vs) ∧ d = .tuple es ∧ RpL G vs es)
structure IsWalk (tg : Expr) (G : Hp) (J : It) (ds : List D) : Prop where
  go : ∀ (i : Nat) (H : Hp), Same G H → i < ds.length → J.go i H
  stop : ∀ H : Hp, Same G H → J.stop ds.length H
  yld : ∀ (i : Nat) (H : Hp) (x : V) (H' : Hp), Same G H → i < ds.length → J.yld i H x H' → ∃ d, ds[i]? = some d ∧ Yl tg G H x H' d
def tI (R : Res) (tg : Expr) (ρ : List Cell) (T : M (List D)) : TI := fun σ H Rr => ∃ G m q, Sit R σ ρ G H m ∧ T q m ∧ ∀ J ds G' H' m', Sit R σ ρ G' H' m' → Grow R.vol G H G' H' → IsWalk tg G' J ds → q ds m' → Rr J H'
def JI (X : Cx) (R : Res) (ρ : List Cell) (tg iter : Expr) (T : M (List D)) : Prop := PI X tg iter (tI R tg ρ T)
theorem PI.imp {X : Cx} {tg iter : Expr} {t t' : TI} (h : PI X tg iter t) (k : ∀ σ H Q, t' σ H Q → t σ H Q) : PI X tg iter t' := ⟨fun pins s σ H Q I q => h.run pins s σ H Q I (k σ H Q q)⟩
section
variable {X : Cx} {R : Res} {ρ : List Cell} {tg e a b : Expr} {pos p : Pos}
theorem JI.imp {T T' : M (List D)} (h : JI X R ρ tg e T) (k : ∀ q m, T' q m → T q m) : JI X R ρ tg e T' := PI.imp h fun _ _ _ ⟨G, m, q, S, t, c⟩ => ⟨G, m, q, S, k q m t, c⟩
abbrev JIE (X : Cx) (R : Res) (ρ : List Cell) (tg e : Expr) (o : Option (List D)) : Prop := JI X R ρ tg e (lift o)
theorem walk_l {tg : Expr} {K : PySem.W.Frag} {G : Hp} {p : Addr} {vs : List V} {ds : List D} (hp : G p = some (.lst vs)) (r : RpL G vs ds) : IsWalk tg G (Itl K p) ds where
  go := fun i H s hi => by
    obtain ⟨v, hv, _⟩ := r.get (List.getElem?_eq_getElem hi)
    exact ⟨vs, v, SqL.of (s _ _ hp), hv⟩
  stop := fun H s => ⟨vs, SqL.of (s _ _ hp), by rw [r.length]; exact Nat.le_refl _⟩
  yld := fun i H x H' s hi y => by
    obtain ⟨d, hd, rd⟩ := r.getV (y.2 vs (SqL.of (s _ _ hp)))
    exact ⟨d, hd, .inl ⟨y.1, rd⟩⟩
theorem walk_t {tg : Expr} {K : PySem.W.Frag} {G : Hp} {p : Addr} {vs : List V} {ds : List D} (hp : Tu G p vs) (r : RpL G vs ds) : IsWalk tg G (Itt K p) ds where
  go := fun i H s hi => by
    obtain ⟨v, hv, _⟩ := r.get (List.getElem?_eq_getElem hi)
    exact ⟨vs, v, (hp.sqm s), hv⟩
  stop := fun H s => ⟨vs, (hp.sqm s), by rw [r.length]; exact Nat.le_refl _⟩
  yld := fun i H x H' s hi y => by
    obtain ⟨d, hd, rd⟩ := r.getV (y.2 vs ((hp.sqm s)))
    exact ⟨d, hd, .inl ⟨y.1, rd⟩⟩
/-- a list or a tuple, whichever the value is -/
def iSeq (K : PySem.W.Frag) (tl : TE) : TI := fun σ H Rr => tl σ H fun x H1 => ∃ p, x = .ref p ∧ (((∃ vs, SqL K H1 p vs) ∧ Rr (Itl K p) H1) ∨ ((∃ vs, SqT K H1 p vs) ∧ Rr (Itt K p) H1))
theorem pi_seq {tl : TE} (hl : PE X e tl) : PI X tg e (iSeq X.K tl) := by
  refine ⟨fun pins s σ H Rr I h => thn (hl.run pins s σ H _ I h) fun v s1 hv => ?_⟩
  obtain ⟨x, H1, I1, r1, p, rfl, q⟩ := hv
  cases r1
  have fr : ∀ b ∈ [s1.heap.objs.size], FpOk X pins H1 b := fun b hb => by
    rw [List.mem_singleton.mp hb]
    exact I1.fpOk (Nat.le_refl _) (I1.hok.fresh (Nat.le_refl _))
  rcases q with ⟨⟨vs, hq⟩, q⟩ | ⟨⟨vs, hq⟩, q⟩
  · obtain ⟨its, _, pl, _⟩ := I1.list hq
    exact wpAny_pyIter_list pl.isList ⟨_, [s1.heap.objs.size], _, _, H1, rfl, I1.kept (t' := s1.toks) fun _ _ e => Heap.get?_push_of_some _ e, turn_list p _, ⟨_, Heap.get?_push_size _ rfl, rfl, rfl⟩, fr, q⟩
  · obtain ⟨its, _, pl, _⟩ := I1.tuple hq
    exact wpAny_pyIter_tuple (show s1.heap.IsTuple p its.toArray from pl) ⟨_, [s1.heap.objs.size], _, _, H1, rfl, I1.kept (t' := s1.toks) fun _ _ e => Heap.get?_push_of_some _ e, turn_tuple p _, ⟨_, Heap.get?_push_size _ rfl, rfl, rfl⟩, fr, q⟩
theorem ji_seq {T : M D} (h : JM X R ρ e T) : JI X R ρ tg e (fun q => T fun d => lift (dItems d) q) := by
  refine PI.imp (pi_seq h) fun σ H Rr ⟨G, m, q, S, t, k⟩ => ⟨G, m, _, S, t, fun v d G1 H1 m1 S1 g1 r1 q1 => ?_⟩
  obtain ⟨ds, hd, q1⟩ := q1
  cases r1 with
  | @lst p vs ds hp r =>
    cases hd
    exact ⟨p, rfl, .inl ⟨⟨vs, SqL.of (S1.gh _ _ hp)⟩, k _ _ G1 H1 m1 S1 g1 (walk_l hp r) q1⟩⟩
  | @tup p vs ds hp r =>
    cases hd
    exact ⟨p, rfl, .inr ⟨⟨vs, (hp.sqm S1.gh)⟩, k _ _ G1 H1 m1 S1 g1 (walk_t hp r) q1⟩⟩
  | _ => cases hd
theorem jie_seq {o : Option D} (h : JE X R ρ e o) : JIE X R ρ tg e (o.bind dItems) := (ji_seq h).imp fun _ _ => lift1
/-- a new list -/
theorem ji_new {T : M (List D)} (h : JL X R ρ e T) : JI X R ρ tg e T := (ji_seq (JL.jm h)).imp fun q m t => by
  have e : (fun ds => lift (dItems (.list ds)) q) = q := by
    funext ds m
    exact lift_some ds q m
  show T (fun ds => lift (dItems (.list ds)) q) m
  rw [e]; exact t
/-- range(..) -/
def rangeD (lo n : Int) : List D := (List.range (n - lo).toNat).map fun (i : Nat) => .int (lo + i)
theorem rangeD_len (lo n : Int) : (rangeD lo n).length = (n - lo).toNat := by simp [rangeD]
theorem walk_r {tg : Expr} {G : Hp} {lo n : Int} : IsWalk tg G (Itr lo (n - lo).toNat) (rangeD lo n) where
  go := fun i H s hi => by rw [rangeD_len] at hi; exact hi
  stop := fun H s => by rw [rangeD_len]; exact Nat.le_refl _
  yld := fun i H x H' s hi y => by
    rw [rangeD_len] at hi
    exact ⟨.int (lo + i), by simp [rangeD, hi], .inl ⟨y.1, by rw [y.2]; exact .int _⟩⟩
def small62 (i : Int) : Bool := decide (-(2 ^ 62) ≤ i ∧ i < 2 ^ 62)
def dRange : List D → Option (List D)
  | [.int n] => if small62 n = true then some (rangeD 0 n) else none
  | [.int lo, .int n] => if small62 lo = true ∧ small62 n = true then some (rangeD lo n) else none
  | _ => none
theorem ji_range1 {Ts : M (List D)} (hm : X.mg "range" = none) (ha : JA X R ρ [a] 1 Ts) (hg : Gl X "range" := by rfl) (hs : starEach [a] X.env = [(false, eval a X.env)] := by rfl) : JI X R ρ tg (.Call (.Name "range" p) [a] [] pos) (fun q => Ts fun ds => lift (dRange ds) q) := by
  refine PI.imp (pi_range1 hg hm ha hs) fun σ H Rr ⟨G, m, q, S, t, k⟩ => ⟨G, m, _, S, t, fun vs ds G1 H1 m1 S1 g1 r1 l1 q1 => ?_⟩
  obtain ⟨es, hd, q1⟩ := q1
  match ds, r1, hd with
  | [.int n], .cons a .nil, hd =>
    cases a
    simp only [dRange, small62, decide_eq_true_eq, Option.ite_none_right_eq_some, Option.some.injEq] at hd
    obtain ⟨hz, rfl⟩ := hd
    refine ⟨n, rfl, hz.1, hz.2, ?_⟩
    have w : IsWalk tg G1 (Itr 0 (n - 0).toNat) (rangeD 0 n) := walk_r
    rw [Int.sub_zero] at w
    exact k _ _ G1 H1 m1 S1 g1 w q1
theorem ji_range2 {Ts : M (List D)} (hm : X.mg "range" = none) (ha : JA X R ρ [a, b] 2 Ts) (hg : Gl X "range" := by rfl) (hs : starEach [a, b] X.env = [(false, eval a X.env), (false, eval b X.env)] := by rfl) (hs2 : starEach [b] X.env = [(false, eval b X.env)] := by rfl) :
    JI X R ρ tg (.Call (.Name "range" p) [a, b] [] pos) (fun q => Ts fun ds => lift (dRange ds) q) := by
  refine PI.imp (pi_range2 hg hm ha hs hs2) fun σ H Rr ⟨G, m, q, S, t, k⟩ => ⟨G, m, _, S, t, fun vs ds G1 H1 m1 S1 g1 r1 l1 q1 => ?_⟩
  obtain ⟨es, hd, q1⟩ := q1
  match ds, r1, hd with
  | [.int lo, .int n], .cons a (.cons b .nil), hd =>
    cases a
    cases b
    simp only [dRange, small62, decide_eq_true_eq, Option.ite_none_right_eq_some, Option.some.injEq] at hd
    obtain ⟨hz, rfl⟩ := hd
    exact ⟨lo, n, rfl, ⟨hz.1.1, hz.1.2, hz.2.1, hz.2.2⟩, k _ _ G1 H1 m1 S1 g1 walk_r q1⟩
theorem jie_range1 {o : Option D} (hm : X.mg "range" = none) (ha : JE X R ρ a o) (hg : Gl X "range" := by rfl) (hs : starEach [a] X.env = [(false, eval a X.env)] := by rfl) : JIE X R ρ tg (.Call (.Name "range" p) [a] [] pos) (C1 (fun x => dRange [x]) o) :=
  (ji_range1 hm (jae_cons ha jae_nil hs) hg hs).imp fun q m h => liftF (by
    have e : C1 (fun x => dRange [x]) o = (consO o (some [])).bind dRange := by cases o <;> rfl
    rw [← e]; exact h)
theorem jie_range2 {o1 o2 : Option D} (hm : X.mg "range" = none) (ha : JE X R ρ a o1) (hb : JE X R ρ b o2) (hg : Gl X "range" := by rfl) (hs : starEach [a, b] X.env = [(false, eval a X.env), (false, eval b X.env)] := by rfl) (hs2 : starEach [b] X.env = [(false, eval b X.env)] := by rfl) :
    JIE X R ρ tg (.Call (.Name "range" p) [a, b] [] pos) (C2 (fun x y => dRange [x, y]) o1 o2) :=
  (ji_range2 hm (jae_cons ha (jae_cons hb jae_nil hs2) (by rw [hs, hs2])) hg hs hs2).imp fun q m h => liftF (by
    have e : C2 (fun x y => dRange [x, y]) o1 o2 = (consO o1 (consO o2 (some []))).bind dRange := by cases o1 <;> cases o2 <;> rfl
    rw [← e]; exact h)
end

/-! ### list comprehensions -/
def cM (f : D → M (Option D)) : List D → M (List D)
  | [] => fun q m => q [] m
  | d :: ds => fun q m => f d (fun o m1 => cM f ds (fun r m2 => q (match o with | some x => x :: r | none => r) m2) m1) m
def lcM (Ti : M (List D)) (f : D → M (Option D)) : M (List D) := fun q m => Ti (fun ds m1 => ds.length < sizeLine ∧ cM f ds q m1) m
/-- one turn: the test, then the element -/
def turnM (Tt : M Bool) (Te : M D) : M (Option D) := fun q m => Tt (fun t m1 => if t = true then Te (fun x m2 => q (some x) m2) m1 else q none m1) m
section
variable {X : Cx} {R : Res} {ρ : List Cell} {tg iter elt : Expr} {ifs : List Expr} {scope : Scope} {own : List (Str × Nat)} {pos : Pos}
def OkT (X : Cx) (R : Res) (scope : Scope) (ρ : List Cell) (ifs : List Expr) (T : M Bool) : Prop := ∀ (s : Shared) (H : Hp) (C : Addr) (cl : List (Str × Addr)) (fp : List Addr), PTs (X.blk s H scope (compEnvC scope cl C X.env) fp) ifs (tT R ρ T)
def OkE (X : Cx) (R : Res) (scope : Scope) (ρ : List Cell) (e : Expr) (T : M D) : Prop := ∀ (s : Shared) (H : Hp) (C : Addr) (cl : List (Str × Addr)) (fp : List Addr), JM (X.blk s H scope (compEnvC scope cl C X.env) fp) R ρ e T
theorem okT_nil : OkT X R scope ρ [] (fun q m => q true m) := fun s H C cl fp => ⟨fun pins s σ H Q I ⟨G, m, q, S, t, k⟩ => pts_nil.run pins s σ H Q I (k true G H m S (Grow.refl _ _ _) t)⟩
theorem okT_one {c : Expr} {T : M Bool} (h : ∀ (s : Shared) (H : Hp) (C : Addr) (cl : List (Str × Addr)) (fp : List Addr), JT (X.blk s H scope (compEnvC scope cl C X.env) fp) R ρ c T) : OkT X R scope ρ [c] T := fun s H C cl fp => pts_one (h s H C cl fp)
theorem Grow.back {vol : Addr → Prop} {G0 H0 G H : Hp} {p : Addr} {o : HO} (h0 : H0 p = none) (g : Grow vol G0 H0 G H) : Grow vol G0 H0 G (upd H p o) :=
  ⟨g.gg, fun a u n h => by rw [upd_ne (ne_of_none h h0)]; exact g.hh a u n h, g.new⟩
def ttAny (X : Cx) (R : Res) (scope : Scope) (ifs : List Expr) : TT := fun σ H Q => ∃ ρ' T, OkT X R scope ρ' ifs T ∧ tT R ρ' T σ H Q
def teAny (X : Cx) (R : Res) (scope : Scope) (e : Expr) : TE := fun σ H Q => ∃ ρ' T, OkE X R scope ρ' e T ∧ tJ R ρ' T σ H Q
theorem ttAny_ok (s : Shared) (H : Hp) (C : Addr) (cl : List (Str × Addr)) (fp : List Addr) : PTs (X.blk s H scope (compEnvC scope cl C X.env) fp) ifs (ttAny X R scope ifs) := ⟨fun pins s2 σ H2 Q I ⟨ρ', T, h, q⟩ => (h s H C cl fp).run pins s2 σ H2 Q I q⟩
theorem teAny_ok (s : Shared) (H : Hp) (C : Addr) (cl : List (Str × Addr)) (fp : List Addr) : PE (X.blk s H scope (compEnvC scope cl C X.env) fp) elt (teAny X R scope elt) := ⟨fun pins s2 σ H2 Q I ⟨ρ', T, h, q⟩ => (h s H C cl fp).run pins s2 σ H2 Q I q⟩
def LcBody (X : Cx) (R : Res) (ρ : List Cell) (scope : Scope) (own : List (Str × Nat)) (ifs : List Expr) (elt : Expr) (bd : List Cell → D → Option (List Cell)) (f : D → M (Option D)) : Prop :=
  ∀ (d : D) (q : Option D → Nat → Prop) (m : Nat), f d q m → ∃ (ρ' : List Cell) (Tt : M Bool) (Te : M D), bd (wipeC ρ (own.map (·.2))) d = some ρ' ∧ OkT X R scope ρ' ifs Tt ∧ OkE X R scope ρ' elt Te ∧ turnM Tt Te q m
theorem lc_read {Ti : M (List D)} {sl : List Nat} {bd : List Cell → D → Option (List Cell)} {f : D → M (Option D)} (hsl : ∀ j ∈ sl, j ∈ own.map (·.2)) (body : LcBody X R ρ scope own ifs elt bd f) (σ : L2.St) (H : Hp) (Q : VK)
    (h : tL R ρ (lcM Ti f) σ H Q) : tLc (tI R tg ρ Ti) (tG R tg sl bd) (ttAny X R scope ifs) (teAny X R scope elt) (own.map (·.2)) σ H Q := by
  obtain ⟨G, m, q, S, t, k⟩ := h
  refine ⟨G, m, _, S, t, fun J ds G1 H1 m1 S1 g1 W q1 Dl hD => ?_⟩
  obtain ⟨hz, q1⟩ := q1
  have WW : Walk J ds.length (fun H' => Same G1 H') (fun i H' x H'' => ∃ d, ds[i]? = some d ∧ Yl tg G1 H' x H'' d) :=
    ⟨fun i H' hi s => W.go i H' s hi, fun H' s => W.stop H' s, fun i H' x H'' hi s y => W.yld i H' x H'' s hi y⟩
  have hnv : ¬ R.vol Dl := fun v => S1.vh Dl v hD
  refine lc_it (g := tG R tg sl bd) (tt := ttAny X R scope ifs) (te := teAny X R scope elt) (vs := own.map (·.2)) (σ := σ) (H1 := H1) (D := Dl) (Qd := Q (.ref Dl)) WW
    (fun i H' => ∃ (Gi : Hp) (mi : Nat) (as : List D) (vs : List V), Grow R.vol G1 H1 Gi H' ∧ Sit R σ ρ Gi H' mi ∧ Gi Dl = none ∧ H' Dl = some (.lst vs) ∧ RpL Gi vs as ∧ as.length ≤ i ∧ cM f (ds.drop i) (fun r m => q (as ++ r) m) mi)
    ?_ (fun i H' _ h => by obtain ⟨Gi, mi, as, vs, g, S', _⟩ := h; exact g.gg.trans S'.gh) ?_ ?_
  · obtain ⟨g, s⟩ := grow_own S1.gh hD (.lst [])
    obtain ⟨S2, g2⟩ := S1.growS g s
    exact ⟨G1, m1, [], [], g2, S2, S1.gh.free hD, upd_same, .nil, Nat.le_refl _, q1⟩
  · rintro i x Hi Hi' hlt ⟨Gi, mi, as, vs, g, S', gD, hDi, r, hl, hq⟩ ⟨d, hd, hy⟩
    have hdrop : ds.drop i = d :: ds.drop (i + 1) := by
      obtain ⟨h1, h2⟩ := List.getElem?_eq_some_iff.mp hd
      rw [List.drop_eq_getElem_cons h1, h2]
    rw [hdrop] at hq
    obtain ⟨ρ', Tt, Te, hbd, okt, oke, turn⟩ := body d _ mi hq
    -- the item, as a datum of a heap that is known
    have item : ∃ Gj, Grow R.vol G1 H1 Gj Hi' ∧ Sit R σ ρ Gj Hi' mi ∧ Gj Dl = none ∧ Hi' Dl = some (.lst vs) ∧ RpL Gj vs as ∧ ItR tg Gj x d := by
      rcases hy with ⟨rfl, rx⟩ | ⟨tt, p, ws, es, rfl, hp, rfl, rfl, rx⟩
      · exact ⟨Gi, g, S', gD, hDi, r, .inl (rx.mono g.gg)⟩
      · obtain ⟨g2, s2⟩ := grow_new S'.gh hp (.tup ws)
        obtain ⟨S2, g2'⟩ := S'.growS g2 s2
        have ne : Dl ≠ p := fun z => by subst z; rw [hDi] at hp; cases hp
        exact ⟨_, g.trans S'.vh g2', S2, by rw [upd_ne ne]; exact gD, by rw [upd_ne ne]; exact hDi, r.mono g2.gg, .inr ⟨tt, p, ws, es, rfl, upd_same, rfl, rx.mono (g.gg.trans g2.gg)⟩⟩
    obtain ⟨Gj, gj, Sj, gDj, hDj, rj, rx⟩ := item
    have hwl : (wipe σ (own.map (·.2))).length = σ.length := wipe_length _ _
    refine ⟨Gj, mi, d, wipeC ρ (own.map (·.2)), ρ', Sj.wipe _, rx, hbd, fun σ2 S2 l2 f2 => ⟨wipe_eq (l2.trans hwl) fun j hj => f2 j fun z => hj (hsl j z), ρ', Tt, okt, Gj, mi, _, S2, turn, fun t G3 H3 m3 S3 g3 q3 => ?_⟩⟩
    have gD3 : G3 Dl = none := g3.new Dl gDj (by rw [hDj]; exact fun z => nomatch z)
    have hD3 : H3 Dl = some (.lst vs) := g3.hh Dl _ hnv hDj
    cases t with
    | false =>
      show ∃ (Gi : Hp) (mi : Nat) (as : List D) (vs : List V), _
      have g' := gj.trans Sj.vh g3
      exact ⟨G3, m3, as, vs, g', S1.grow g' S3.gh S3.vh S3.jd, gD3, hD3, rj.mono g3.gg, Nat.le_succ_of_le hl, q3⟩
    | true =>
      show ∃ ρ' T, OkE X R scope ρ' elt T ∧ tJ R ρ' T σ2 H3 _
      refine ⟨ρ', Te, oke, G3, m3, _, S3, q3, fun v y G4 H4 m4 S4 g4 r4 q4 => ?_⟩
      have gD4 : G4 Dl = none := g4.new Dl gD3 (by rw [hD3]; exact fun z => nomatch z)
      have hD4 : H4 Dl = some (.lst vs) := g4.hh Dl _ hnv hD3
      have g' := (gj.trans Sj.vh g3).trans S3.vh g4
      have g5 : Grow R.vol G1 H1 G4 (upd H4 Dl (.lst (vs ++ [v]))) := g'.back hD
      have rl := rj.length
      refine ⟨vs, hD4, by omega, G4, m4, as ++ [y], vs ++ [v], g5, S1.grow g5 (fun a o h => by rw [upd_ne (ne_of_none h gD4)]; exact S4.gh a o h) (fun a va => ?_) (R.dm (fun a va => upd_ne fun z => hnv (z ▸ va)) S4.jd), gD4, upd_same, (rj.mono (g3.gg.trans g4.gg)).append (.cons r4 .nil), by simp; exact hl, ?_⟩
      · by_cases z : a = Dl
        · exact absurd (z ▸ va) hnv
        · rw [upd_ne z]; exact S4.vh a va
      · have e : (fun r m => q (as ++ [y] ++ r) m) = fun r m => q (as ++ (y :: r)) m := by
          funext r m
          rw [List.append_assoc]; rfl
        rw [e]
        exact q4
  · rintro H' ⟨Gi, mi, as, vs, g, S', gD, hDi, r, hl, hq⟩
    rw [List.drop_length] at hq
    have hq : q (as ++ []) mi := hq
    rw [List.append_nil] at hq
    exact k Dl vs as Gi H' mi S' (g1.trans S1.vh g) (free_of g1 S1.vh hD) gD hDi r hq
theorem jl_lc {Ti : M (List D)} {sl : List Nat} {bd : List Cell → D → Option (List Cell)} {f : D → M (Option D)} {k : Nat} (B : Bx X k) (hi : JI X R ρ tg iter Ti) (ok : BlkOk X.N X.env.scope scope own) (hsl : ∀ j ∈ sl, j ∈ own.map (·.2))
    (hg : ∀ (s : Shared) (H : Hp) (C : Addr) (cl : List (Str × Addr)) (fp : List Addr), JG (X.blk s H scope (compEnvC scope cl C X.env) fp) R tg sl bd) (body : LcBody X R ρ scope own ifs elt bd f)
    (hs : ∀ x, foldedSetIterable iter X.env x = pure x := by intro _; rfl) : JL X R ρ (.ListComp elt [⟨tg, iter, ifs, 0⟩] scope pos) (lcM Ti f) :=
  PE.imp (pe_lc B.hc B.nd hi ok hg ttAny_ok teAny_ok hs) (lc_read hsl body)
/-- name = [..], the name a plain local -/
theorem js_lc {Ti : M (List D)} {sl : List Nat} {bd : List Cell → D → Option (List Cell)} {f : D → M (Option D)} {k i : Nat} {y : Str} {py spos : Pos} (B : Bx X k) (hy : X.N[i]? = some y) (hyl : X.env.scope.names.lookup y = some .local) (hsw : swapsWith (.ListComp elt [⟨tg, iter, ifs, 0⟩] scope pos) (some (.Name y py)) spos.line X.env = pure true)
    (hi : JI X R ρ tg iter Ti) (ok : BlkOk X.N X.env.scope scope own) (hsl : ∀ j ∈ sl, j ∈ own.map (·.2))
    (hg : ∀ (s : Shared) (H : Hp) (C : Addr) (cl : List (Str × Addr)) (fp : List Addr), JG (X.blk s H scope (compEnvC scope cl C X.env) fp) R tg sl bd) (body : LcBody X R ρ scope own ifs elt bd f)
    (hs : ∀ x, foldedSetIterable iter X.env x = pure x := by intro _; rfl) : PS X (.Assign [.Name y py] (.ListComp elt [⟨tg, iter, ifs, 0⟩] scope pos) spos) (tAsg (tL R ρ (lcM Ti f)) (gName i)) :=
  ⟨fun pins s σ H Dn I h => (ps_setLc B.hc B.nd hy hyl hsw hi ok hg ttAny_ok teAny_ok hs).run pins s σ H Dn I (lc_read hsl body σ H _ h)⟩
end
end Dl

set_option Elab.async false
set_option linter.all false
set_option autoImplicit false
set_option maxRecDepth 100000
set_option maxHeartbeats 1000000
namespace Dl
open PySem L2

/-! ### comprehensions, pure -/
def cO (f : D → Option (Option D)) : List D → Option (List D)
  | [] => some []
  | d :: ds => (f d).bind fun o => (cO f ds).bind fun r => some (match o with | some x => x :: r | none => r)
def lcO (oi : Option (List D)) (f : D → Option (Option D)) : Option (List D) := oi.bind fun ds => if ds.length < sizeLine then cO f ds else none
def turnO (ot : Option Bool) (oe : Option D) : Option (Option D) := ot.bind fun t => if t = true then oe.map some else some none
def un2 {β : Type} : D → (D → D → Option β) → Option β
  | .tuple [a, b], f => f a b
  | _, _ => none
def un3 {β : Type} : D → (D → D → D → Option β) → Option β
  | .tuple [a, b, c], f => f a b c
  | _, _ => none
theorem cO_cM {f : D → Option (Option D)} : ∀ {ds : List D} {q : List D → Nat → Prop} {m : Nat}, lift (cO f ds) q m → cM (fun d => lift (f d)) ds q m
  | [], q, m, h => by
    show q [] m
    exact lift_some' h
  | d :: ds, q, m, h => by
    obtain ⟨o, h1, h2⟩ := lift1 h
    obtain ⟨r, h3, h4⟩ := lift1 h2
    exact ⟨o, h1, cO_cM ⟨r, h3, lift_some' h4⟩⟩
theorem lcO_lcM {oi : Option (List D)} {f : D → Option (Option D)} {q : List D → Nat → Prop} {m : Nat} (h : lift (lcO oi f) q m) : lcM (lift oi) (fun d => lift (f d)) q m := by
  obtain ⟨ds, h1, h2⟩ := lift1 h
  by_cases hz : ds.length < sizeLine
  · rw [if_pos hz] at h2
    exact ⟨ds, h1, hz, cO_cM h2⟩
  · rw [if_neg hz] at h2
    obtain ⟨_, e, _⟩ := h2
    cases e
theorem turnO_M {ot : Option Bool} {oe : Option D} {q : Option D → Nat → Prop} {m : Nat} (h : lift (turnO ot oe) q m) : turnM (lift ot) (lift oe) q m := by
  obtain ⟨t, h1, h2⟩ := lift1 h
  refine ⟨t, h1, ?_⟩
  cases t with
  | false => exact lift_some' h2
  | true =>
    obtain ⟨z, h3, h4⟩ := h2
    obtain ⟨x, h5, h6⟩ := Option.map_eq_some_iff.mp h3
    subst h6
    exact ⟨x, h5, h4⟩
section
variable {X : Cx} {R : Res} {ρ : List Cell} {tg iter elt : Expr} {ifs : List Expr} {scope : Scope} {own : List (Str × Nat)} {pos : Pos} {k : Nat}
abbrev OkTE (X : Cx) (R : Res) (scope : Scope) (ρ : List Cell) (ifs : List Expr) (o : Option Bool) : Prop := OkT X R scope ρ ifs (lift o)
abbrev OkEE (X : Cx) (R : Res) (scope : Scope) (ρ : List Cell) (e : Expr) (o : Option D) : Prop := OkE X R scope ρ e (lift o)
theorem okTE_nil : OkTE X R scope ρ [] (some true) := fun s H C cl fp => ⟨fun pins s2 σ H2 Q I ⟨G, m, q, S, t, c⟩ => (okT_nil s H C cl fp).run pins s2 σ H2 Q I ⟨G, m, q, S, lift_some' t, c⟩⟩
theorem jle_lc1 {oi : Option (List D)} {i : Nat} {ot : D → Option Bool} {oe : D → Option D} (B : Bx X k) (hi : JIE X R ρ tg iter oi) (ok : BlkOk X.N X.env.scope scope own)
    (hg : ∀ (s : Shared) (H : Hp) (C : Addr) (cl : List (Str × Addr)) (fp : List Addr), JG (X.blk s H scope (compEnvC scope cl C X.env) fp) R tg [i] (bd1 i))
    (ht : ∀ d, OkTE X R scope ((wipeC ρ (own.map (·.2))).set i (.dat d)) ifs (ot d)) (he : ∀ d, OkEE X R scope ((wipeC ρ (own.map (·.2))).set i (.dat d)) elt (oe d))
    (hsl : ∀ j ∈ [i], j ∈ own.map (·.2) := by decide) (hs : ∀ x, foldedSetIterable iter X.env x = pure x := by intro _; rfl) : JLE X R ρ (.ListComp elt [⟨tg, iter, ifs, 0⟩] scope pos) (lcO oi fun d => turnO (ot d) (oe d)) :=
  (jl_lc B hi ok hsl hg (f := fun d => lift (turnO (ot d) (oe d))) (fun d q m h => ⟨_, _, _, rfl, ht d, he d, turnO_M h⟩) hs).imp fun _ _ => lcO_lcM
theorem jle_lc2 {oi : Option (List D)} {i1 i2 : Nat} {ot : D → D → Option Bool} {oe : D → D → Option D} (B : Bx X k) (hi : JIE X R ρ tg iter oi) (ok : BlkOk X.N X.env.scope scope own)
    (hg : ∀ (s : Shared) (H : Hp) (C : Addr) (cl : List (Str × Addr)) (fp : List Addr), JG (X.blk s H scope (compEnvC scope cl C X.env) fp) R tg [i1, i2] (bdT [i1, i2]))
    (ht : ∀ a b, OkTE X R scope (((wipeC ρ (own.map (·.2))).set i1 (.dat a)).set i2 (.dat b)) ifs (ot a b)) (he : ∀ a b, OkEE X R scope (((wipeC ρ (own.map (·.2))).set i1 (.dat a)).set i2 (.dat b)) elt (oe a b))
    (hsl : ∀ l ∈ [i1, i2], l ∈ own.map (·.2) := by decide) (hs : ∀ x, foldedSetIterable iter X.env x = pure x := by intro _; rfl) : JLE X R ρ (.ListComp elt [⟨tg, iter, ifs, 0⟩] scope pos) (lcO oi fun d => un2 d fun a b => turnO (ot a b) (oe a b)) :=
  (jl_lc B hi ok hsl hg (f := fun d => lift (un2 d fun a b => turnO (ot a b) (oe a b))) (fun d q m h => by
    obtain ⟨z, h1, h2⟩ := h
    match d, h1 with
    | .tuple [a, b], h1 => exact ⟨_, _, _, rfl, ht a b, he a b, turnO_M ⟨z, h1, h2⟩⟩) hs).imp fun _ _ => lcO_lcM
end

/-! ### one's own lists, read -/
def brw : List Cell → List Cell
  | [] => []
  | .own ds :: r => .dat (.list ds) :: brw r
  | c :: r => c :: brw r
theorem brw_len : ∀ ρ : List Cell, (brw ρ).length = ρ.length
  | [] => rfl
  | .own _ :: r => by simp [brw, brw_len r]
  | .no :: r => by simp [brw, brw_len r]
  | .dat _ :: r => by simp [brw, brw_len r]
  | .raw _ :: r => by simp [brw, brw_len r]
theorem brw_at : ∀ (ρ : List Cell) (i : Nat) (c : Cell), (brw ρ)[i]? = some c → (∃ ds, ρ[i]? = some (.own ds) ∧ c = .dat (.list ds)) ∨ ((∀ ds, c ≠ .own ds) ∧ ρ[i]? = some c)
  | [], i, c, h => by simp [brw] at h
  | .own ds :: r, 0, c, h => by simp [brw] at h; exact .inl ⟨ds, rfl, h.symm⟩
  | .own _ :: r, i + 1, c, h => brw_at r i c (by simpa [brw] using h)
  | .no :: r, 0, c, h => by simp [brw] at h; subst h; exact .inr ⟨(fun _ z => nomatch z), rfl⟩
  | .no :: r, i + 1, c, h => brw_at r i c (by simpa [brw] using h)
  | .dat _ :: r, 0, c, h => by simp [brw] at h; subst h; exact .inr ⟨(fun _ z => nomatch z), rfl⟩
  | .dat _ :: r, i + 1, c, h => brw_at r i c (by simpa [brw] using h)
  | .raw _ :: r, 0, c, h => by simp [brw] at h; subst h; exact .inr ⟨(fun _ z => nomatch z), rfl⟩
  | .raw _ :: r, i + 1, c, h => brw_at r i c (by simpa [brw] using h)
/-- the addresses of one's own -/
def Owned (σ : L2.St) (ρ : List Cell) (a : Addr) : Prop := ∃ (i : Nat) (ds : List D), ρ[i]? = some (.own ds) ∧ σ[i]? = some (some (.ref a))
section
variable {R : Res} {σ : L2.St} {ρ : List Cell} {G H : Hp} {m : Nat}
open Classical in
noncomputable def shr (σ : L2.St) (ρ : List Cell) (G H : Hp) : Hp := fun a => if Owned σ ρ a then H a else G a
open Classical in
noncomputable def uns (σ : L2.St) (ρ : List Cell) (G : Hp) : Hp := fun a => if Owned σ ρ a then none else G a
theorem Sit.owned (S : Sit R σ ρ G H m) {a : Addr} (o : Owned σ ρ a) : ∃ vs ds, G a = none ∧ ¬ R.vol a ∧ H a = some (.lst vs) ∧ RpL G vs ds ∧ R.ent a = none := by
  obtain ⟨i, ds, h1, h2⟩ := o
  obtain ⟨l, vs, e, g, n, en, h, r⟩ := S.ownT h1
  rw [h2] at e
  cases e
  exact ⟨vs, ds, g, n, h, r, en⟩
theorem Sit.shr_gg (S : Sit R σ ρ G H m) : Same G (shr σ ρ G H) := fun a o h => by
  unfold shr
  by_cases w : Owned σ ρ a
  · obtain ⟨_, _, g, _⟩ := S.owned w
    rw [g] at h; cases h
  · rw [if_neg w]; exact h
theorem Sit.shr_gh (S : Sit R σ ρ G H m) : Same (shr σ ρ G H) H := fun a o h => by
  unfold shr at h
  by_cases w : Owned σ ρ a
  · rw [if_pos w] at h; exact h
  · rw [if_neg w] at h; exact S.gh a o h
theorem Sit.lend (S : Sit R σ ρ G H m) : Sit R σ (brw ρ) (shr σ ρ G H) H m := by
  refine ⟨⟨S.shr_gh, fun a v => ?_, S.vh, R.sm S.shr_gg S.js, S.jd, S.en⟩, by rw [brw_len]; exact S.len, fun i c e => ?_, fun i j ds es l e1 _ _ _ => ?_⟩
  · unfold shr
    by_cases w : Owned σ ρ a
    · obtain ⟨_, _, _, n, _⟩ := S.owned w
      exact absurd v n
    · rw [if_neg w]; exact S.vg a v
  · rcases brw_at ρ i c e with ⟨ds, h, rfl⟩ | ⟨hn, h⟩
    · obtain ⟨l, vs, e, g, n, en, hl, r⟩ := S.ownT h
      refine ⟨.ref l, e, .lst (vs := vs) ?_ (r.mono S.shr_gg)⟩
      unfold shr
      rw [if_pos ⟨i, ds, h, e⟩]
      exact hl
    · have q := S.cell i c h
      cases c with
      | no => trivial
      | raw v => exact q
      | dat d => obtain ⟨v, e, r⟩ := q; exact ⟨v, e, r.mono S.shr_gg⟩
      | own ds => exact absurd rfl (hn ds)
  · rcases brw_at ρ i _ e1 with ⟨_, _, z⟩ | ⟨hn, _⟩
    · cases z
    · exact absurd rfl (hn ds)
theorem Sit.unbor (S : Sit R σ ρ G H m) {G2 H2 : Hp} {m2 : Nat} (S2 : Sit R σ (brw ρ) G2 H2 m2) (g : Grow R.vol (shr σ ρ G H) H G2 H2) :
    Sit R σ ρ (uns σ ρ G2) H2 m2 ∧ Grow R.vol G H (uns σ ρ G2) H2 ∧ ∀ p vs, Tu G2 p vs → Tu (uns σ ρ G2) p vs := by
  have gg : Same G (uns σ ρ G2) := fun a o h => by
    unfold uns
    by_cases w : Owned σ ρ a
    · obtain ⟨_, _, g, _⟩ := S.owned w
      rw [g] at h; cases h
    · rw [if_neg w]; exact g.gg a o (S.shr_gg a o h)
  have g' : Grow R.vol G H (uns σ ρ G2) H2 := ⟨gg, g.hh, fun a ga ha => by
    unfold uns
    by_cases w : Owned σ ρ a
    · rw [if_pos w]
    · rw [if_neg w]
      refine g.new a ?_ ha
      unfold shr
      rw [if_neg w]; exact ga⟩
  refine ⟨S.grow g' (fun a o h => ?_) S2.vh S2.jd, g', fun p vs ⟨o, ho, h⟩ => ⟨o, ho, ?_⟩⟩
  · unfold uns at h
    by_cases w : Owned σ ρ a
    · rw [if_pos w] at h; cases h
    · rw [if_neg w] at h; exact S2.gh a o h
  · unfold uns
    by_cases w : Owned σ ρ p
    · obtain ⟨ws, _, _, n, hl, _⟩ := S.owned w
      have e1 := S2.gh p _ h
      have e2 := g.hh p _ n hl
      rw [e1] at e2; cases e2
    · rw [if_neg w]; exact h
end
section
variable {X : Cx} {R : Res} {ρ : List Cell} {e : Expr}
theorem JM.lend {T : M D} (h : JM X R (brw ρ) e T) : JM X R ρ e (fun q => T fun d m => imm d = true ∧ q d m) :=
  PE.imp h fun σ H Q ⟨G, m, q, S, t, k⟩ => ⟨_, m, _, S.lend, t, fun v d G2 H2 m2 S2 g2 r2 q2 => by
    obtain ⟨S3, g3, tt⟩ := S.unbor S2 g2
    exact k v d _ H2 m2 S3 g3 (r2.keep tt q2.1) q2.2⟩
theorem JL.lend {T : M (List D)} (h : JL X R (brw ρ) e T) : JL X R ρ e (fun q => T fun ds m => immL ds = true ∧ q ds m) :=
  PE.imp h fun σ H Q ⟨G, m, q, S, t, k⟩ => ⟨_, m, _, S.lend, t, fun p vs ds G2 H2 m2 S2 g2 hp gp hp2 r2 q2 => by
    obtain ⟨S3, g3, tt⟩ := S.unbor S2 g2
    refine k p vs ds _ H2 m2 S3 g3 hp ?_ hp2 (r2.keep tt q2.1) q2.2
    unfold uns
    by_cases w : Owned σ ρ p
    · rw [if_pos w]
    · rw [if_neg w]; exact gp⟩
theorem JT.lend {T : M Bool} (h : JT X R (brw ρ) e T) : JT X R ρ e T :=
  PT.imp h fun σ H Q ⟨G, m, q, S, t, k⟩ => ⟨_, m, _, S.lend, t, fun b G2 H2 m2 S2 g2 q2 => by
    obtain ⟨S3, g3, _⟩ := S.unbor S2 g2
    exact k b _ H2 m2 S3 g3 q2⟩
def immO (o : Option D) : Option D := o.bind fun d => if imm d = true then some d else none
def immLO (o : Option (List D)) : Option (List D) := o.bind fun d => if immL d = true then some d else none
theorem JE.lend {o : Option D} (h : JE X R (brw ρ) e o) : JE X R ρ e (immO o) := (JM.lend h).imp fun q m t => by
  obtain ⟨d, h1, h2⟩ := lift1 t
  by_cases z : imm d = true
  · rw [if_pos z] at h2
    exact ⟨d, h1, z, lift_some' h2⟩
  · rw [if_neg z] at h2
    obtain ⟨_, e, _⟩ := h2; cases e
theorem JLE.lend {o : Option (List D)} (h : JLE X R (brw ρ) e o) : JLE X R ρ e (immLO o) := (JL.lend h).imp fun q m t => by
  obtain ⟨d, h1, h2⟩ := lift1 t
  by_cases z : immL d = true
  · rw [if_pos z] at h2
    exact ⟨d, h1, z, lift_some' h2⟩
  · rw [if_neg z] at h2
    obtain ⟨_, e, _⟩ := h2; cases e
end
end Dl

set_option Elab.async false
set_option linter.all false
set_option autoImplicit false
set_option maxRecDepth 100000
set_option maxHeartbeats 1000000
namespace Dl
open PySem L2

/-! ### what a def promises -/
structure FnG (P : Program) (w : World) (K : PySem.W.Frag) (mg : Str → Option Value) (base : Heap) (CX : CXT) (k : Nat) (f : Addr) (fd : FuncData) (ps : List Str) (sp : Sp) : Prop where
  len : ∀ vs H Q E, sp vs H Q E → vs.length = ps.length
  run : ∀ (A : Around) (outer : List Env) (s : Shared) (H : Hp) (args : Args) (us : List Value) (vs : List V) (Q : VK) (E : XK), A.guards = some [] → Room k A → Env0 P w K mg base A outer s H →
    BindsTo s fd args (ps.zip us) → Vals vs us → sp vs H Q E → codeAny (model P w) A (.call (.ref f) args) (CR CX outer P w H s Q E) s
section
variable {P : Program} {w : World} {K : PySem.W.Frag} {mg : Str → Option Value} {base : Heap} {CX : CXT}
theorem FnG.mono {j k : Nat} {f : Addr} {fd : FuncData} {ps : List Str} {sp : Sp} (F : FnG P w K mg base CX j f fd ps sp) (h : j ≤ k) : FnG P w K mg base CX k f fd ps sp :=
  ⟨F.len, fun A o s H args us vs Q E hg hr => F.run A o s H args us vs Q E hg (hr.mono h)⟩
/-- by its body -/
theorem fn_g {x qual : Str} {st : Stmt} {f : Addr} {fd : FuncData} {N ps : List Str} {k : Nat} {sp : Sp} (F : Fun K x qual st f fd) (S : FnScope N ps (defScope st)) (len : ∀ vs H Q E, sp vs H Q E → vs.length = ps.length)
    (body : ∀ (cdv : Value) (A : Around) (outer : List Env) (s : Shared) (H : Hp) (vs : List V) (Q : VK) (E : XK), A.guards = some [] → Room k (A.deeper (PyProof.Rows.envOfC qual (defScope st) s.heap.objs.size f cdv)) → sp vs H Q E →
      ∃ t, PSs (cxOf CX P w K mg base N qual (defScope st) f cdv A outer s H E) (defBody st) t ∧ t { nx := fun _ H' => Q .non H', rt := Q } (start N vs) H) : FnG P w K mg base CX (k + 1) f fd ps sp := by
  obtain ⟨oc, od, kV, doc, pm, an, cdv, ct, osl, rfl, lk, hcd⟩ := F.ex
  refine ⟨len, ?_⟩
  intro A outer s H args us vs Q E hg hr env hb rv h
  have hlen := len _ _ _ _ h
  have inK := env.mod.kin.keeps fun b o e => (env.bs b o e).1
  have nol := env.mod.nolimit.keeps fun b o e => (env.bs b o e).1
  refine codeAny_call_function hr.depth (inK _ _ lk) rfl S.co S.gen rfl (PySem.W.codeRec_of inK hcd) (hb _ _ _ _ ?_)
  refine wpAny_newFunctionEnv_cells S.kind (fun y hy => ?_) fun en he s1 ic => ?_
  · obtain ⟨n, v⟩ := y
    exact (S.par n (List.of_mem_zip hy).1).imp id fun q => ⟨q, PySem.W.cellsFrom_some _ _ _ (.inl q)⟩
  · subst he
    obtain ⟨t, ht, hq⟩ := body cdv A outer s H vs Q E hg (hr.deeper _) h
    refine ⟨nol.keeps ic.toInCall.keep, codeAny_func (wpAny_mono (ht.run [] s1 (start N vs) H _ (inv_start S hr.hd env hlen rv ic) hq) (fun fl s' hs => ?_) fun e s' hs => hs)⟩
    match fl, hs with
    | .ret u, ⟨v, σ', H', J, rv', q⟩ => exact ⟨v, H', J.os, J.bare, J.base, J.hok, rv', q⟩
    | .next, ⟨σ', H', J, q⟩ => exact ⟨V.non, H', J.os, J.bare, J.base, J.hok, rfl, q⟩
    | .brk, ⟨_, _, _, q⟩ => exact q.elim
    | .cont, ⟨_, _, _, q⟩ => exact q.elim
end
/-- a def of the module that is known by its name -/
def Kn (P : Program) (w : World) (K : PySem.W.Frag) (mg : Str → Option Value) (base : Heap) (x : Str) (k : Nat) (sp : Sp) : Prop :=
  ∃ f fd ps, FnG P w K mg base CX0 k f fd ps sp ∧ mg x = some (.ref f) ∧ PySem.W.keepIn K (.ref f) = true ∧ Binds K fd ps []
section
variable {X : Cx} {k : Nat} {x : Str} {p pos : Pos} {e : Expr} {es : List Expr} {sp : Sp} {t : TA}
theorem pe_kn (h : Kn X.prog X.w X.K X.mg X.base x k sp) (B : Bx X k) (ha : PA X (e :: es) t) (hg : Gl X x := by rfl) (hdb : (x == ("__debug__" : Str)) = false := by decide) (he : starEach (e :: es) X.env = (false, eval e X.env) :: starEach es X.env := by rfl)
    (hpl : (backTo pos (starEach es X.env)).any (·.1) = false := by rfl) : PE X (.Call (.Name x p) (e :: es) [] pos) (fun σ H Q => t σ H fun vs H1 => sp vs H1 Q E0) := by
  obtain ⟨f, fd, ps, F, hm, hk, hb⟩ := h
  refine ⟨fun pins s σ H Q I hq => wpAny_Call_Name_kw (ld_glob I hg hm ?_ hdb)⟩
  refine PySem.W.callWith_K (h₀ := X.base) I.ok.mod.kin hk (thn (ha.run pos pins s σ H _ I hq) fun us s1 hs => ?_) he hpl
  obtain ⟨vs, H1, I1, rv, q⟩ := hs
  have bt := hb s1 us I1.kIn (by rw [List.append_nil, ← rv.length]; exact F.len _ _ _ _ q)
  rw [List.append_nil] at bt
  refine ⟨I1.kIn, wpAny_call (codeAny_mono (F.run X.A X.stack s1 H1 ⟨us, []⟩ us vs Q E0 B.hg B.hr I1.env0 bt rv q) fun r s' hr => ?_)⟩
  match r, hr with
  | .ok (.ret u), hr => exact I1.after hr
  | .error e, hr => exact hr.elim
end

/-- how an answer is handed back: a datum, or a new list of nobody else's. en: the heap at the entry -/
structure RK (α : Type) where
  rel : Hp → Hp → Hp → V → α → Prop
def RK.dat : RK D := ⟨fun _ G' _ v d => Rp G' v d⟩
def RK.lst : RK (List D) := ⟨fun en G' H' v ds => ∃ p vs, v = .ref p ∧ en p = none ∧ G' p = none ∧ H' p = some (.lst vs) ∧ RpL G' vs ds⟩
/-- a pure def of n arguments: the answer is F's -/
def spR {α : Type} (rk : RK α) (n : Nat) (F : List D → Option α) : Sp := fun vs H Q _ => ∃ G ds a, Same G H ∧ RpL G vs ds ∧ ds.length = n ∧ F ds = some a ∧ ∀ v G' H', Grow (fun _ => False) G H G' H' → Same G' H' → rk.rel H G' H' v a → Q v H'
section
variable {X : Cx} {R : Res} {ρ : List Cell} {k n : Nat} {x : Str} {p pos : Pos} {e : Expr} {es : List Expr}
theorem jm_kn {F : List D → Option D} {Ts : M (List D)} (h : Kn X.prog X.w X.K X.mg X.base x k (spR .dat n F)) (B : Bx X k) (ha : JA X R ρ (e :: es) n Ts) (hg : Gl X x := by rfl) (hdb : (x == ("__debug__" : Str)) = false := by decide)
    (he : starEach (e :: es) X.env = (false, eval e X.env) :: starEach es X.env := by rfl) (hpl : (backTo pos (starEach es X.env)).any (·.1) = false := by rfl) : JM X R ρ (.Call (.Name x p) (e :: es) [] pos) (fun q => Ts fun ds => lift (F ds) q) := by
  refine PE.imp (pe_kn h B ha hg hdb he hpl) fun σ H Q ⟨G, m, q, S, t, k⟩ => ⟨G, m, _, S, t, fun vs ds G1 H1 m1 S1 g1 r1 l1 q1 => ?_⟩
  obtain ⟨z, hz, q1⟩ := q1
  refine ⟨G1, ds, z, S1.gh, r1, l1, hz, fun v G2 H2 g2 s2 r2 => ?_⟩
  obtain ⟨S2, g2'⟩ := S1.growS g2 s2
  exact k v z G2 H2 m1 S2 (g1.trans S1.vh g2') r2 q1
theorem jl_kn {F : List D → Option (List D)} {Ts : M (List D)} (h : Kn X.prog X.w X.K X.mg X.base x k (spR .lst n F)) (B : Bx X k) (ha : JA X R ρ (e :: es) n Ts) (hg : Gl X x := by rfl) (hdb : (x == ("__debug__" : Str)) = false := by decide)
    (he : starEach (e :: es) X.env = (false, eval e X.env) :: starEach es X.env := by rfl) (hpl : (backTo pos (starEach es X.env)).any (·.1) = false := by rfl) : JL X R ρ (.Call (.Name x p) (e :: es) [] pos) (fun q => Ts fun ds => lift (F ds) q) := by
  refine PE.imp (pe_kn h B ha hg hdb he hpl) fun σ H Q ⟨G, m, q, S, t, k⟩ => ⟨G, m, _, S, t, fun vs ds G1 H1 m1 S1 g1 r1 l1 q1 => ?_⟩
  obtain ⟨z, hz, q1⟩ := q1
  refine ⟨G1, ds, z, S1.gh, r1, l1, hz, fun v G2 H2 g2 s2 r2 => ?_⟩
  obtain ⟨S2, g2'⟩ := S1.growS g2 s2
  obtain ⟨l, ws, rfl, hl, gl, hl2, r⟩ := r2
  exact k l ws z G2 H2 m1 S2 (g1.trans S1.vh g2') (free_of g1 S1.vh hl) gl hl2 r q1
theorem je_kn {F : List D → Option D} {os : Option (List D)} (h : Kn X.prog X.w X.K X.mg X.base x k (spR .dat n F)) (B : Bx X k) (ha : JAE X R ρ (e :: es) n os) (hg : Gl X x := by rfl) (hdb : (x == ("__debug__" : Str)) = false := by decide)
    (he : starEach (e :: es) X.env = (false, eval e X.env) :: starEach es X.env := by rfl) (hpl : (backTo pos (starEach es X.env)).any (·.1) = false := by rfl) : JE X R ρ (.Call (.Name x p) (e :: es) [] pos) (os.bind F) := (jm_kn h B ha hg hdb he hpl).imp fun _ _ => liftF
theorem jle_kn {F : List D → Option (List D)} {os : Option (List D)} (h : Kn X.prog X.w X.K X.mg X.base x k (spR .lst n F)) (B : Bx X k) (ha : JAE X R ρ (e :: es) n os) (hg : Gl X x := by rfl) (hdb : (x == ("__debug__" : Str)) = false := by decide)
    (he : starEach (e :: es) X.env = (false, eval e X.env) :: starEach es X.env := by rfl) (hpl : (backTo pos (starEach es X.env)).any (·.1) = false := by rfl) : JLE X R ρ (.Call (.Name x p) (e :: es) [] pos) (os.bind F) := (jl_kn h B ha hg hdb he hpl).imp fun _ _ => liftF
variable {id T : String} {r : List V → Hp → VK → Prop}
theorem je_callB {F : List D → Option D} {os : Option (List D)} (hr : CallR X (.builtin id) r) (hF : CallD r F) (hm : X.mg x = none) (hv : bootBuiltins x = some (.builtin id)) (ha : JAE X R ρ (e :: es) n os) (hg : Gl X x := by rfl) (hn : x ≠ "__name__" := by decide) (hdb : (x == ("__debug__" : Str)) = false := by decide)
    (he : starEach (e :: es) X.env = (false, eval e X.env) :: starEach es X.env := by rfl) (hpl : (backTo pos (starEach es X.env)).any (·.1) = false := by rfl) : JE X R ρ (.Call (.Name x p) (e :: es) [] pos) (os.bind F) := (jm_callB hr hF hm hv ha hg hn hdb he hpl).imp fun _ _ => liftF
theorem je_callTy {F : List D → Option D} {os : Option (List D)} (hr : CallR X (.type T) r) (hF : CallD r F) (hm : X.mg x = none) (hv : bootBuiltins x = some (.type T)) (ha : JAE X R ρ (e :: es) n os) (hg : Gl X x := by rfl) (hn : x ≠ "__name__" := by decide) (hdb : (x == ("__debug__" : Str)) = false := by decide)
    (he : starEach (e :: es) X.env = (false, eval e X.env) :: starEach es X.env := by rfl) (hpl : (backTo pos (starEach es X.env)).any (·.1) = false := by rfl) : JE X R ρ (.Call (.Name x p) (e :: es) [] pos) (os.bind F) := (jm_callTy hr hF hm hv ha hg hn hdb he hpl).imp fun _ _ => liftF
theorem jle_callB {F : List D → Option (List D)} {os : Option (List D)} (hr : CallR X (.builtin id) r) (hF : CallDL r F) (hm : X.mg x = none) (hv : bootBuiltins x = some (.builtin id)) (ha : JAE X R ρ (e :: es) n os) (hg : Gl X x := by rfl) (hn : x ≠ "__name__" := by decide) (hdb : (x == ("__debug__" : Str)) = false := by decide)
    (he : starEach (e :: es) X.env = (false, eval e X.env) :: starEach es X.env := by rfl) (hpl : (backTo pos (starEach es X.env)).any (·.1) = false := by rfl) : JLE X R ρ (.Call (.Name x p) (e :: es) [] pos) (os.bind F) := (jl_callB hr hF hm hv ha hg hn hdb he hpl).imp fun _ _ => liftF
theorem jle_callTy {F : List D → Option (List D)} {os : Option (List D)} (hr : CallR X (.type T) r) (hF : CallDL r F) (hm : X.mg x = none) (hv : bootBuiltins x = some (.type T)) (ha : JAE X R ρ (e :: es) n os) (hg : Gl X x := by rfl) (hn : x ≠ "__name__" := by decide) (hdb : (x == ("__debug__" : Str)) = false := by decide)
    (he : starEach (e :: es) X.env = (false, eval e X.env) :: starEach es X.env := by rfl) (hpl : (backTo pos (starEach es X.env)).any (·.1) = false := by rfl) : JLE X R ρ (.Call (.Name x p) (e :: es) [] pos) (os.bind F) := (jl_callTy hr hF hm hv ha hg hn hdb he hpl).imp fun _ _ => liftF
end

/-! ### statements -/
/-- what each way out of a block may be: the cells then, and what is then to hold -/
structure Kt where
  nx : List Cell → (Nat → Prop) → Prop
  bk : List Cell → (Nat → Prop) → Prop
  ct : List Cell → (Nat → Prop) → Prop
def Lk (R : Res) (Gb Gs : Hp) (κ : List Cell → (Nat → Prop) → Prop) (P : L2.St → Hp → Prop) : Prop := ∀ ρ' b σ' G' H' m', κ ρ' b → b m' → Sit R σ' ρ' G' H' m' → Grow R.vol Gb R.ent G' H' → Same Gs G' → P σ' H'
def Rt {α : Type} (R : Res) (rk : RK α) (Gb : Hp) (q : α → Nat → Prop) (P : VK) : Prop := ∀ v a G' H' m', Sat R G' H' m' → Grow R.vol Gb R.ent G' H' → rk.rel R.ent G' H' v a → q a m' → P v H'
/-- the ways out of a block, from what is known -/
structure Ls {α : Type} (R : Res) (rk : RK α) (Gb Gs : Hp) (κ : Kt) (q : α → Nat → Prop) (Dn : Ends) : Prop where
  rt : Rt R rk Gb q Dn.rt
  nx : Lk R Gb Gs κ.nx Dn.nx
  bk : Lk R Gb Gs κ.bk Dn.bk
  ct : Lk R Gb Gs κ.ct Dn.ct
theorem Lk.sm {R : Res} {Gb Gs G1 : Hp} {κ : List Cell → (Nat → Prop) → Prop} {P : L2.St → Hp → Prop} (l : Lk R Gb Gs κ P) (s : Same Gs G1) : Lk R Gb G1 κ P := fun ρ' b σ' G' H' m' h hb S g s' => l ρ' b σ' G' H' m' h hb S g (s.trans s')
theorem Ls.sm {α : Type} {R : Res} {rk : RK α} {Gb Gs G1 : Hp} {κ : Kt} {q : α → Nat → Prop} {Dn : Ends} (l : Ls R rk Gb Gs κ q Dn) (s : Same Gs G1) : Ls R rk Gb G1 κ q Dn := ⟨l.rt, l.nx.sm s, l.bk.sm s, l.ct.sm s⟩
def tK {α : Type} (R : Res) (rk : RK α) (ρ : List Cell) (κ : Kt) (q : α → Nat → Prop) (a : Nat → Prop) : TS := fun Dn σ H => ∃ Gb G m, Sit R σ ρ G H m ∧ Grow R.vol Gb R.ent G H ∧ a m ∧ Ls R rk Gb G κ q Dn
def JK {α : Type} (X : Cx) (R : Res) (rk : RK α) (ρ : List Cell) (st : List Stmt) (κ : Kt) (q : α → Nat → Prop) (a : Nat → Prop) : Prop := PSs X st (tK R rk ρ κ q a)
theorem PSs.imp {X : Cx} {st : List Stmt} {t t' : TS} (h : PSs X st t) (k : ∀ Dn σ H, t' Dn σ H → t Dn σ H) : PSs X st t' := ⟨fun pins s σ H Dn I q => h.run pins s σ H Dn I (k Dn σ H q)⟩
theorem PS.imp {X : Cx} {st : Stmt} {t t' : TS} (h : PS X st t) (k : ∀ Dn σ H, t' Dn σ H → t Dn σ H) : PS X st t' := ⟨fun pins s σ H Dn I q => h.run pins s σ H Dn I (k Dn σ H q)⟩
theorem pss_any {X : Cx} {st : List Stmt} {ι : Type} {t : ι → TS} (h : ∀ i, PSs X st (t i)) : PSs X st (fun Dn σ H => ∃ i, t i Dn σ H) := ⟨fun pins s σ H Dn I ⟨i, q⟩ => (h i).run pins s σ H Dn I q⟩
section
variable {α : Type} {X : Cx} {R : Res} {rk : RK α} {ρ : List Cell} {st : Stmt} {rest : List Stmt} {κ : Kt} {q : α → Nat → Prop} {e : Expr} {pos : Pos}
theorem Sit.tr {σ : L2.St} {Gb G H G1 H1 : Hp} {m : Nat} (S : Sit R σ ρ G H m) (g0 : Grow R.vol Gb R.ent G H) (g : Grow R.vol G H G1 H1) : Grow R.vol Gb R.ent G1 H1 := g0.trans S.vh g
theorem JK.imp {st : List Stmt} {a a' : Nat → Prop} (h : JK X R rk ρ st κ q a) (k : ∀ m, a' m → a m) : JK X R rk ρ st κ q a' := PSs.imp h fun _ _ _ ⟨Gb, G, m, S, g, t, r⟩ => ⟨Gb, G, m, S, g, k m t, r⟩
theorem JK.kmono {st : List Stmt} {κ' : Kt} {a : Nat → Prop} (h : JK X R rk ρ st κ q a) (k1 : ∀ ρ b, κ.nx ρ b → κ'.nx ρ b) (k2 : ∀ ρ b, κ.bk ρ b → κ'.bk ρ b) (k3 : ∀ ρ b, κ.ct ρ b → κ'.ct ρ b) : JK X R rk ρ st κ' q a :=
  PSs.imp h fun _ _ _ ⟨Gb, G, m, S, g, t, ls⟩ => ⟨Gb, G, m, S, g, t, ls.rt, fun ρ' b σ' G' H' m' h => ls.nx ρ' b σ' G' H' m' (k1 _ _ h), fun ρ' b σ' G' H' m' h => ls.bk ρ' b σ' G' H' m' (k2 _ _ h), fun ρ' b σ' G' H' m' h => ls.ct ρ' b σ' G' H' m' (k3 _ _ h)⟩
theorem jk_nil {a : Nat → Prop} (h : κ.nx ρ a) : JK X R rk ρ [] κ q a := PSs.imp pss_nil fun _ σ H ⟨Gb, G, m, S, g, t, ls⟩ => ls.nx ρ a σ G H m h t S g (Same.refl _)
theorem jk_pass {a : Nat → Prop} (hr : JK X R rk ρ rest κ q a) : JK X R rk ρ (.Pass pos :: rest) κ q a := PSs.imp (pss_cons ps_pass hr) fun _ _ _ h => h
theorem jk_break {a : Nat → Prop} (h : κ.bk ρ a) : JK X R rk ρ (.Break pos :: rest) κ q a := PSs.imp (pss_cons ps_break pss_never) fun _ σ H ⟨Gb, G, m, S, g, t, ls⟩ => ls.bk ρ a σ G H m h t S g (Same.refl _)
theorem jk_cont {a : Nat → Prop} (h : κ.ct ρ a) : JK X R rk ρ (.Continue pos :: rest) κ q a := PSs.imp (pss_cons ps_continue pss_never) fun _ σ H ⟨Gb, G, m, S, g, t, ls⟩ => ls.ct ρ a σ G H m h t S g (Same.refl _)
/-- a statement that stores a datum to slot i -/
theorem jk_st {T : M D} {i : Nat} {k : D → Nat → Prop} (hs : PS X st (tAsg (tJ R ρ T) (gName i))) (hr : ∀ d, JK X R rk (ρ.set i (.dat d)) rest κ q (k d)) : JK X R rk ρ (st :: rest) κ q (T k) :=
  PSs.imp (pss_cons hs (pss_any hr)) fun Dn σ H ⟨Gb, G, m, S, g, t, ls⟩ => ⟨G, m, _, S, t, fun v d G1 H1 m1 S1 g1 r1 q1 => ⟨d, Gb, G1, m1, S1.setD i r1, S.tr g g1, q1, ls.sm g1.gg⟩⟩
/-- .. a new list, one's own -/
theorem jk_stL {T : M (List D)} {i : Nat} {k : List D → Nat → Prop} (hs : PS X st (tAsg (tL R ρ T) (gName i))) (hr : ∀ ds, JK X R rk (ρ.set i (.own ds)) rest κ q (k ds)) : JK X R rk ρ (st :: rest) κ q (T k) :=
  PSs.imp (pss_cons hs (pss_any hr)) fun Dn σ H ⟨Gb, G, m, S, g, t, ls⟩ => ⟨G, m, _, S, t, fun p vs ds G1 H1 m1 S1 g1 hp gp hp1 r1 q1 => ⟨ds, Gb, G1, m1, S1.setO i gp (fun v => S.vh p v hp) (S.en p hp) hp1 r1 (fun j es e z => by
    obtain ⟨l, ws, e2, _, _, _, hl, _⟩ := S.ownT e
    rw [z] at e2
    cases e2
    rw [hp] at hl
    cases hl), S.tr g g1, q1, ls.sm g1.gg⟩⟩
/-- the stores -/
theorem st_set {i : Nat} {x : Str} {p' : Pos} {T : M D} (he : JM X R ρ e T) (hN : X.N.Nodup) (hi : X.N[i]? = some x := by rfl) (hx : Loc X.env.scope x := by first | exact Or.inl rfl | exact Or.inr rfl) (hs : swapsWith e (some (.Name x p')) pos.line X.env = pure false := by rfl)
    (hf : X.fn x = true ∨ X.env.scope.names.lookup x = some .local := by first | exact .inl rfl | exact .inr rfl) : PS X (.Assign [.Name x p'] e pos) (tAsg (tJ R ρ T) (gName i)) := ps_set hN hi hx he hs hf
theorem st_setL {i : Nat} {x : Str} {p' : Pos} {T : M (List D)} (he : JL X R ρ e T) (hN : X.N.Nodup) (hi : X.N[i]? = some x := by rfl) (hx : Loc X.env.scope x := by first | exact Or.inl rfl | exact Or.inr rfl) (hs : swapsWith e (some (.Name x p')) pos.line X.env = pure false := by rfl)
    (hf : X.fn x = true ∨ X.env.scope.names.lookup x = some .local := by first | exact .inl rfl | exact .inr rfl) : PS X (.Assign [.Name x p'] e pos) (tAsg (tL R ρ T) (gName i)) := ps_set hN hi hx he hs hf
/-- a new list that all may know -/
theorem tL_tJ {T : M (List D)} (σ : L2.St) (H : Hp) (Q : VK) (h : tJ R ρ (fun q => T fun ds => q (.list ds)) σ H Q) : tL R ρ T σ H Q := by
  obtain ⟨G, m, q, S, t, c⟩ := h
  refine ⟨G, m, _, S, t, fun p vs ds G' H' m' S' g hp gp hp' r hq => ?_⟩
  obtain ⟨g1, g2⟩ := grow_share S'.gh gp hp'
  have g' : Grow R.vol G H (upd G' p (.lst vs)) H' := ⟨g.gg.trans g1, g.hh, fun x gx hx => by
    by_cases e : x = p
    · subst e; exact absurd hp hx
    · rw [upd_ne e]; exact g.new x gx hx⟩
  exact c _ _ _ _ m' (S.grow g' g2 S'.vh S'.jd) g' (.lst upd_same (r.mono g1)) hq
theorem st_shr {i : Nat} {T : M (List D)} (h : PS X st (tAsg (tL R ρ T) (gName i))) : PS X st (tAsg (tJ R ρ fun q => T fun ds => q (.list ds)) (gName i)) := PS.imp h fun Dn σ H q => tL_tJ σ H _ q
theorem tL_lend {T : M (List D)} (σ : L2.St) (H : Hp) (Q : VK) (h : tL R ρ (fun q => T fun ds m => immL ds = true ∧ q ds m) σ H Q) : tL R (brw ρ) T σ H Q := by
  obtain ⟨G, m, q, S, t, k⟩ := h
  refine ⟨_, m, _, S.lend, t, fun p vs ds G2 H2 m2 S2 g2 hp gp hp2 r2 q2 => ?_⟩
  obtain ⟨S3, g3, tt⟩ := S.unbor S2 g2
  refine k p vs ds _ H2 m2 S3 g3 hp ?_ hp2 (r2.keep tt q2.1) q2.2
  unfold uns
  by_cases w : Owned σ ρ p
  · rw [if_pos w]
  · rw [if_neg w]; exact gp
theorem st_lend {i : Nat} {T : M (List D)} (h : PS X st (tAsg (tL R (brw ρ) T) (gName i))) : PS X st (tAsg (tL R ρ fun q => T fun ds m => immL ds = true ∧ q ds m) (gName i)) := PS.imp h fun Dn σ H q => tL_lend σ H _ q
theorem jk_ret {T : M D} {q : D → Nat → Prop} (he : JM X R ρ e T) : JK X R .dat ρ (.Return (some e) pos :: rest) κ q (T q) :=
  PSs.imp (pss_cons (ps_ret he) pss_never) fun Dn σ H ⟨Gb, G, m, S, g, t, ls⟩ => ⟨G, m, _, S, t, fun v d G1 H1 m1 S1 g1 r1 q1 => ls.rt v d G1 H1 m1 S1.toSat (S.tr g g1) r1 q1⟩
theorem jk_retN {q : D → Nat → Prop} : JK X R .dat ρ (.Return none pos :: rest) κ q (q .none) :=
  PSs.imp (pss_cons ps_retN pss_never) fun Dn σ H ⟨Gb, G, m, S, g, t, ls⟩ => ls.rt _ _ G H m S.toSat g .non t
theorem jk_retL {T : M (List D)} {q : List D → Nat → Prop} (he : JL X R ρ e T) : JK X R .lst ρ (.Return (some e) pos :: rest) κ q (T q) :=
  PSs.imp (pss_cons (ps_ret he) pss_never) fun Dn σ H ⟨Gb, G, m, S, g, t, ls⟩ => ⟨G, m, _, S, t, fun p vs ds G1 H1 m1 S1 g1 hp gp hp1 r1 q1 => ls.rt _ ds G1 H1 m1 S1.toSat (S.tr g g1) ⟨p, vs, rfl, S.en p hp, gp, hp1, r1⟩ q1⟩
/-- return of one's own list -/
theorem jk_retO (i : Nat) {x : Str} {ds : List D} {px : Pos} {q : List D → Nat → Prop} (hρ : ρ[i]? = some (.own ds) := by rfl) (hN : X.N[i]? = some x := by rfl) (hv : Vis X.env.scope x := by first | exact Or.inl rfl | exact Or.inr (Or.inl rfl) | exact Or.inr (Or.inr rfl)) (hd : (x == ("__debug__" : Str)) = false := by decide)
    (hcd : (x == ("__classdict__" : Str)) = false := by decide) : JK X R .lst ρ (.Return (some (.Name x px)) pos :: rest) κ q (q ds) :=
  PSs.imp (pss_cons (ps_ret (pe_var (i := i) hN hv hd hcd)) pss_never) fun Dn σ H ⟨Gb, G, m, S, g0, t, ls⟩ => by
    obtain ⟨l, vs, e, g, n, en, hl, rr⟩ := S.ownT hρ
    exact ⟨_, e, ls.rt _ ds G H m S.toSat g0 ⟨l, vs, rfl, en, g, hl, rr⟩ t⟩
theorem jk_if {c : Expr} {A B : List Stmt} {Tc : M Bool} {aA aB : Nat → Prop} (hc : JT X R ρ c Tc) (hA : JK X R rk ρ A ⟨fun ρ' b => JK X R rk ρ' rest κ q b, κ.bk, κ.ct⟩ q aA) (hB : JK X R rk ρ B ⟨fun ρ' b => JK X R rk ρ' rest κ q b, κ.bk, κ.ct⟩ q aB) :
    JK X R rk ρ (.If c A B pos :: rest) κ q (Tc fun t m => if t = true then aA m else aB m) := by
  have hrest : PSs X rest (fun Dn σ H => ∃ z : { z : List Cell × (Nat → Prop) // JK X R rk z.1 rest κ q z.2 }, tK R rk z.1.1 κ q z.1.2 Dn σ H) := pss_any fun z => z.2
  refine PSs.imp (pss_cons (ps_if hc hA hB) hrest) fun Dn σ H ⟨Gb, G, m, S, g, t, ls⟩ => ⟨G, m, _, S, t, fun b G1 H1 m1 S1 g1 q1 => ?_⟩
  have nx : Ls R rk Gb G1 ⟨fun ρ' b => JK X R rk ρ' rest κ q b, κ.bk, κ.ct⟩ q { Dn with nx := fun σ' H' => ∃ z : { z : List Cell × (Nat → Prop) // JK X R rk z.1 rest κ q z.2 }, tK R rk z.1.1 κ q z.1.2 Dn σ' H' } :=
    ⟨ls.rt, fun ρ' b σ' G' H' m' h hb S' g' s' => ⟨⟨(ρ', b), h⟩, Gb, G', m', S', g', hb, ls.sm (g1.gg.trans s')⟩, ls.bk.sm g1.gg, ls.ct.sm g1.gg⟩
  cases b with
  | true =>
    show tK R rk ρ _ q aA _ σ H1
    exact ⟨Gb, G1, m1, S1, S.tr g g1, q1, nx⟩
  | false =>
    show tK R rk ρ _ q aB _ σ H1
    exact ⟨Gb, G1, m1, S1, S.tr g g1, q1, nx⟩
/-- an expression whose value is dropped -/
theorem jk_expr {T : M D} {a : Nat → Prop} (he : JM X R ρ e T) (hr : JK X R rk ρ rest κ q a) (hs : swapsWith e none pos.line X.env = pure false := by rfl) : JK X R rk ρ (.Expr e pos :: rest) κ q (T fun _ => a) :=
  PSs.imp (pss_cons (ps_expr he hs) hr) fun Dn σ H ⟨Gb, G, m, S, g, t, ls⟩ => ⟨G, m, _, S, t, fun v d G1 H1 m1 S1 g1 r1 q1 => ⟨Gb, G1, m1, S1, S.tr g g1, q1, ls.sm g1.gg⟩⟩
/-- a, b = a datum -/
def un2M : D → (D → D → Nat → Prop) → Nat → Prop
  | .tuple [a, b], k => k a b
  | _, _ => fun _ => False
def un3M : D → (D → D → D → Nat → Prop) → Nat → Prop
  | .tuple [a, b, c], k => k a b c
  | _, _ => fun _ => False
theorem jk_un2 {T : M D} {tg : Expr} {i j : Nat} {k : D → D → Nat → Prop} (he : JM X R ρ e T) (hg : JG X R tg [i, j] (bdT [i, j])) (hr : ∀ a b, JK X R rk ((ρ.set i (.dat a)).set j (.dat b)) rest κ q (k a b))
    (hs : swapsWithSole [tg] e pos.line X.env = pure false := by rfl) (hw : swappedStores [tg] e X.env = pure none := by rfl) (h1 : (assignEach [tg] X.env).map (·.2) = [assign tg X.env] := by rfl) : JK X R rk ρ (.Assign [tg] e pos :: rest) κ q (T fun d => un2M d k) :=
  PSs.imp (pss_cons (ps_asg he hg hs hw h1) (pss_any fun z : D × D => hr z.1 z.2)) fun Dn σ H ⟨Gb, G, m, S, g, t, ls⟩ => ⟨G, m, _, S, t, fun v d G1 H1 m1 S1 g1 r1 q1 => by
    match d, r1, q1 with
    | .tuple [a, b], r1, q1 => exact ⟨G1, m1, _, _, _, S1, .inl r1, rfl, fun σ' S' _ _ => ⟨(a, b), Gb, G1, m1, S', S.tr g g1, q1, ls.sm g1.gg⟩⟩⟩
theorem jk_un3 {T : M D} {tg : Expr} {i j l : Nat} {k : D → D → D → Nat → Prop} (he : JM X R ρ e T) (hg : JG X R tg [i, j, l] (bdT [i, j, l])) (hr : ∀ a b c, JK X R rk (((ρ.set i (.dat a)).set j (.dat b)).set l (.dat c)) rest κ q (k a b c))
    (hs : swapsWithSole [tg] e pos.line X.env = pure false := by rfl) (hw : swappedStores [tg] e X.env = pure none := by rfl) (h1 : (assignEach [tg] X.env).map (·.2) = [assign tg X.env] := by rfl) : JK X R rk ρ (.Assign [tg] e pos :: rest) κ q (T fun d => un3M d k) :=
  PSs.imp (pss_cons (ps_asg he hg hs hw h1) (pss_any fun z : D × D × D => hr z.1 z.2.1 z.2.2)) fun Dn σ H ⟨Gb, G, m, S, g, t, ls⟩ => ⟨G, m, _, S, t, fun v d G1 H1 m1 S1 g1 r1 q1 => by
    match d, r1, q1 with
    | .tuple [a, b, c], r1, q1 => exact ⟨G1, m1, _, _, _, S1, .inl r1, rfl, fun σ' S' _ _ => ⟨(a, b, c), Gb, G1, m1, S', S.tr g g1, q1, ls.sm g1.gg⟩⟩⟩
/-- x += n -/
theorem jk_augI {T : M D} {i : Nat} {x : Str} {p' : Pos} {d : D} {k : D → Nat → Prop} (he : JM X R ρ e T) (hr : ∀ d, JK X R rk (ρ.set i (.dat d)) rest κ q (k d)) (hN : X.N.Nodup) (hρ : ρ[i]? = some (.dat d) := by rfl) (hi : X.N[i]? = some x := by rfl) (hx : Loc X.env.scope x := by first | exact Or.inl rfl | exact Or.inr rfl)
    (hf : X.fn x = true ∨ X.env.scope.names.lookup x = some .local := by first | exact .inl rfl | exact .inr rfl) : JK X R rk ρ (.AugAssign (.Name x p') .Add e pos :: rest) κ q (T fun y m => ∃ a b, d = .int a ∧ y = .int b ∧ k (.int (a + b)) m) :=
  PSs.imp (pss_cons (ps_aug hN hi hx he ip_add hf) (pss_any hr)) fun Dn σ H ⟨Gb, G, m, S, g, t, ls⟩ => by
    obtain ⟨v, e1, rv⟩ := S.cell i _ hρ
    refine ⟨v, e1, G, m, _, S, t, fun w y G1 H1 m1 S1 g1 r1 q1 => ?_⟩
    obtain ⟨a, b, rfl, rfl, q1⟩ := q1
    cases rv
    cases r1
    exact ⟨a, b, rfl, rfl, .int (a + b), Gb, G1, m1, S1.setD i (.int _), S.tr g g1, q1, ls.sm g1.gg⟩
/-- x += a new list -/
theorem jk_augL {T : M (List D)} {i : Nat} {x : Str} {p' : Pos} {ds : List D} {k : List D → Nat → Prop} (he : JL X R ρ e T) (hr : ∀ ds, JK X R rk (ρ.set i (.own ds)) rest κ q (k ds)) (hN : X.N.Nodup) (hρ : ρ[i]? = some (.own ds) := by rfl) (hi : X.N[i]? = some x := by rfl) (hx : Loc X.env.scope x := by first | exact Or.inl rfl | exact Or.inr rfl)
    (hf : X.fn x = true ∨ X.env.scope.names.lookup x = some .local := by first | exact .inl rfl | exact .inr rfl) : JK X R rk ρ (.AugAssign (.Name x p') .Add e pos :: rest) κ q (T fun es m => ds.length + es.length ≤ sizeLine ∧ k (ds ++ es) m) :=
  PSs.imp (pss_cons (ps_aug hN hi hx he iop_ext hf) (pss_any hr)) fun Dn σ H ⟨Gb, G, m, S, g, t, ls⟩ => by
    obtain ⟨l, vs, e1, gl, nv, en, hl, rv⟩ := S.ownT hρ
    refine ⟨.ref l, e1, G, m, _, S, t, fun p ws es G1 H1 m1 S1 g1 hp gp hp1 r1 q1 => ?_⟩
    obtain ⟨hz, q1⟩ := q1
    have h1 := g1.hh l _ nv hl
    have rv1 := rv.mono g1.gg
    refine ⟨l, p, vs, ws, rfl, rfl, h1, hp1, by rw [rv.length, r1.length]; exact hz, ?_⟩
    obtain ⟨S2, gg⟩ := S1.write (vs := vs ++ ws) hρ e1 (rv1.append r1)
    have e : σ.set i (some (.ref l)) = σ := List.ext_getElem? fun j => by
      by_cases z : i = j
      · subst z
        rw [List.getElem?_set_self (List.getElem?_eq_some_iff.mp e1).1, e1]
      · rw [List.getElem?_set_ne z]
    refine ⟨ds ++ es, ?_⟩
    rw [e]
    exact ⟨Gb, G1, m1, S2, gg en (S.tr g g1), q1, ls.sm g1.gg⟩
end
end Dl

set_option Elab.async false
set_option linter.all false
set_option autoImplicit false
set_option maxRecDepth 100000
set_option maxHeartbeats 1000000
namespace Dl
open PySem L2

/-! ### loops -/
def forK {S : Type} (body : S → D → (S → Nat → Prop) → Nat → Prop) : List D → S → (S → Nat → Prop) → Nat → Prop
  | [], s, k => k s
  | d :: ds, s, k => body s d fun s' => forK body ds s' k
def whileK {S : Type} (c : S → M Bool) (body : S → (S → Nat → Prop) → Nat → Prop) : Nat → S → (S → Nat → Prop) → Nat → Prop
  | 0, _, _ => fun _ => False
  | n + 1, s, k => c s fun t m => if t = true then body s (fun s' => whileK c body n s' k) m else k s m
/-- the body's ways out: its next turn, the loop's end -/
def KtL {S : Type} (env : S → List Cell) (kk : S → Nat → Prop) (bk : List Cell → (Nat → Prop) → Prop) : Kt :=
  ⟨fun ρ' b => ∃ s', Wk ρ' (env s') ∧ ∀ m, b m → kk s' m, bk, fun ρ' b => ∃ s', Wk ρ' (env s') ∧ ∀ m, b m → kk s' m⟩
section
variable {α S : Type} {X : Cx} {R : Res} {rk : RK α} {ρ : List Cell} {rest body : List Stmt} {κ : Kt} {q : α → Nat → Prop} {tg iter c : Expr} {pos : Pos} {env : S → List Cell} {s0 : S} {k : S → Nat → Prop}
/-- a block by any of its forms -/
def tbF (X : Cx) (R : Res) (rk : RK α) (body rest : List Stmt) (env : S → List Cell) (κ : Kt) (q : α → Nat → Prop) : TS := fun Dn σ H => ∃ z : { z : List Cell × (S → Nat → Prop) × (Nat → Prop) // JK X R rk z.1 body (KtL env z.2.1 fun ρ' b => JK X R rk ρ' rest κ q b) q z.2.2 }, tK R rk z.1.1 (KtL env z.1.2.1 fun ρ' b => JK X R rk ρ' rest κ q b) q z.1.2.2 Dn σ H
def tbR (X : Cx) (R : Res) (rk : RK α) (rest : List Stmt) (κ : Kt) (q : α → Nat → Prop) : TS := fun Dn σ H => ∃ z : { z : List Cell × (Nat → Prop) // JK X R rk z.1 rest κ q z.2 }, tK R rk z.1.1 κ q z.1.2 Dn σ H
theorem tbF_ok : PSs X body (tbF X R rk body rest env κ q) := pss_any fun z => z.2
theorem tbR_ok : PSs X rest (tbR X R rk rest κ q) := pss_any fun z => z.2
theorem jk_for {Ti : M (List D)} {sl : List Nat} {bd : List Cell → D → Option (List Cell)} {bodyM : S → D → (S → Nat → Prop) → Nat → Prop} {n : Nat} (B : Bx X n) (hi : JI X R ρ tg iter Ti) (hg : JG X R tg sl bd) (w0 : Wk ρ (env s0))
    (hb : ∀ (s : S) (d : D) (kk : S → Nat → Prop) (m : Nat), bodyM s d kk m → ∃ ρ', bd (env s) d = some ρ' ∧ JK X R rk ρ' body (KtL env kk fun ρ' b => JK X R rk ρ' rest κ q b) q (bodyM s d kk))
    (hr : ∀ s, JK X R rk (env s) rest κ q (k s)) (hs : ∀ x, foldedSetIterable iter X.env x = pure x := by intro _; rfl) : JK X R rk ρ (.For tg iter body [] pos :: rest) κ q (Ti fun ds => forK bodyM ds s0 k) := by
  refine PSs.imp (pss_cons (ps_for B.ps B.hc hi hg (tbF_ok (R := R) (rk := rk) (rest := rest) (env := env) (κ := κ) (q := q)) hs) (tbR_ok (R := R) (rk := rk) (κ := κ) (q := q))) fun Dn σ H ⟨Gb, G, m, S0, g, t, ls⟩ => ⟨G, m, _, S0, t, fun J ds G1 H1 m1 S1 g1 W q1 => ?_⟩
  have WW : Walk J ds.length (fun H' => Same G1 H') (fun i H' x H'' => ∃ d, ds[i]? = some d ∧ Yl tg G1 H' x H'' d) :=
    ⟨fun i H' hi s => W.go i H' s hi, fun H' s => W.stop H' s, fun i H' x H'' hi s y => W.yld i H' x H'' s hi y⟩
  refine for_it (g := tG R tg sl bd) (tb := tbF X R rk body rest env κ q) (D := { Dn with nx := tbR X R rk rest κ q Dn }) WW (fun i σ' H' => ∃ (s : S) (Gi : Hp) (mi : Nat), Sit R σ' (env s) Gi H' mi ∧ Grow R.vol Gb R.ent Gi H' ∧ Same G1 Gi ∧ forK bodyM (ds.drop i) s k mi)
    ⟨s0, G1, m1, S1.weak w0, S0.tr g g1, Same.refl _, q1⟩ (fun i σ' H' _ h => by obtain ⟨s, Gi, mi, S', _, sg, _⟩ := h; exact sg.trans S'.gh) ?_ ?_
  · rintro i x σ' Hi Hi' hlt ⟨s, Gi, mi, S', g', sg, hq⟩ ⟨d, hd, hy⟩
    have hdrop : ds.drop i = d :: ds.drop (i + 1) := by
      obtain ⟨h1, h2⟩ := List.getElem?_eq_some_iff.mp hd
      rw [List.drop_eq_getElem_cons h1, h2]
    rw [hdrop] at hq
    obtain ⟨ρ', hbd, hk⟩ := hb s d _ mi hq
    have item : ∃ Gj, Grow R.vol Gb R.ent Gj Hi' ∧ Sit R σ' (env s) Gj Hi' mi ∧ Same G1 Gj ∧ ItR tg Gj x d := by
      rcases hy with ⟨rfl, rx⟩ | ⟨tt, p, ws, es, rfl, hp, rfl, rfl, rx⟩
      · exact ⟨Gi, g', S', sg, .inl (rx.mono sg)⟩
      · obtain ⟨g2, s2⟩ := grow_new S'.gh hp (.tup ws)
        obtain ⟨S2, g2'⟩ := S'.growS g2 s2
        exact ⟨_, g'.trans S'.vh g2', S2, sg.trans g2.gg, .inr ⟨tt, p, ws, es, rfl, upd_same, rfl, rx.mono (sg.trans g2.gg)⟩⟩
    obtain ⟨Gj, gj, Sj, sgj, rx⟩ := item
    have turn : ∀ (ρ2 : List Cell) (b : Nat → Prop) (σ3 : L2.St) (G3 H3 : Hp) (m3 : Nat), (∃ s', Wk ρ2 (env s') ∧ ∀ m, b m → forK bodyM (ds.drop (i + 1)) s' k m) → b m3 → Sit R σ3 ρ2 G3 H3 m3 → Grow R.vol Gb R.ent G3 H3 → Same Gj G3 →
        ∃ (s : S) (Gi : Hp) (mi : Nat), Sit R σ3 (env s) Gi H3 mi ∧ Grow R.vol Gb R.ent Gi H3 ∧ Same G1 Gi ∧ forK bodyM (ds.drop (i + 1)) s k mi := fun ρ2 b σ3 G3 H3 m3 ⟨s', w', hb'⟩ hb3 S3 g3 s3 => ⟨s', G3, m3, S3.weak w', g3, sgj.trans s3, hb' _ hb3⟩
    exact ⟨Gj, mi, d, env s, ρ', Sj, rx, hbd, fun σ2 S2 _ _ => ⟨⟨(ρ', _, _), hk⟩, Gb, Gj, mi, S2, gj, hq, ls.rt, turn, fun ρ2 b σ3 G3 H3 m3 h hb3 S3 g3 s3 => ⟨⟨(ρ2, b), h⟩, Gb, G3, m3, S3, g3, hb3, ls.sm (g1.gg.trans (sgj.trans s3))⟩, turn⟩⟩
  · rintro σ' H' ⟨s, Gi, mi, S', g', sg, hq⟩
    rw [List.drop_length] at hq
    exact ⟨⟨(env s, k s), hr s⟩, Gb, Gi, mi, S', g', hq, ls.sm (g1.gg.trans sg)⟩
/-- while: n, more turns than there are -/
theorem jk_while {Tc : S → M Bool} {bodyM : S → (S → Nat → Prop) → Nat → Prop} {n l : Nat} (B : Bx X l) (w0 : Wk ρ (env s0)) (hc : ∀ s, JT X R (env s) c (Tc s))
    (hb : ∀ (s : S) (kk : S → Nat → Prop), JK X R rk (env s) body (KtL env kk fun ρ' b => JK X R rk ρ' rest κ q b) q (bodyM s kk)) (hr : ∀ s, JK X R rk (env s) rest κ q (k s)) : JK X R rk ρ (.While c body [] pos :: rest) κ q (whileK Tc bodyM n s0 k) := by
  have hcc : PT X c (fun σ H Q => ∃ s, tT R (env s) (Tc s) σ H Q) := ⟨fun pins s2 σ H Q I ⟨s, q⟩ => (hc s).run pins s2 σ H Q I q⟩
  refine PSs.imp (pss_cons (ps_while B.ps hcc (tbF_ok (R := R) (rk := rk) (rest := rest) (env := env) (κ := κ) (q := q))) (tbR_ok (R := R) (rk := rk) (κ := κ) (q := q))) fun Dn σ H ⟨Gb, G, m, S0, g, t, ls⟩ => ?_
  refine ⟨fun i σ' H' => ∃ (s : S) (Gi : Hp) (mi : Nat), Sit R σ' (env s) Gi H' mi ∧ Grow R.vol Gb R.ent Gi H' ∧ Same G Gi ∧ whileK Tc bodyM i s k mi, ⟨n, s0, G, m, S0.weak w0, g, Same.refl _, t⟩, ?_⟩
  rintro i σ' H' ⟨s, Gi, mi, S', g', sg, hq⟩
  cases i with
  | zero => exact hq.elim
  | succ i =>
    refine ⟨s, Gi, mi, _, S', hq, fun b G1 H1 m1 S1 g1 q1 => ?_⟩
    have g2 := S'.tr g' g1
    cases b with
    | false =>
      show tbR X R rk rest κ q Dn σ' H1
      exact ⟨⟨(env s, k s), hr s⟩, Gb, G1, m1, S1, g2, q1, ls.sm (sg.trans g1.gg)⟩
    | true =>
      show ∃ N, _
      have turn : ∀ (ρ2 : List Cell) (b : Nat → Prop) (σ3 : L2.St) (G3 H3 : Hp) (m3 : Nat), (∃ s', Wk ρ2 (env s') ∧ ∀ m, b m → whileK Tc bodyM i s' k m) → b m3 → Sit R σ3 ρ2 G3 H3 m3 → Grow R.vol Gb R.ent G3 H3 → Same G1 G3 →
          ∃ (s : S) (Gi : Hp) (mi : Nat), Sit R σ3 (env s) Gi H3 mi ∧ Grow R.vol Gb R.ent Gi H3 ∧ Same G Gi ∧ whileK Tc bodyM i s k mi := fun ρ2 b σ3 G3 H3 m3 ⟨s', w', hb'⟩ hb3 S3 g3 s3 => ⟨s', G3, m3, S3.weak w', g3, (sg.trans g1.gg).trans s3, hb' _ hb3⟩
      exact ⟨_, fun σ3 H3 h => ⟨i, Nat.lt_succ_self i, h⟩, ⟨(env s, _, _), hb s _⟩, Gb, G1, m1, S1, g2, q1, ls.rt, turn, fun ρ2 b σ3 G3 H3 m3 h hb3 S3 g3 s3 => ⟨⟨(ρ2, b), h⟩, Gb, G3, m3, S3, g3, hb3, ls.sm (sg.trans (g1.gg.trans s3))⟩, turn⟩
end
end Dl

set_option Elab.async false
set_option linter.all false
set_option autoImplicit false
set_option maxRecDepth 100000
set_option maxHeartbeats 1000000
namespace Dl
open PySem L2

/-! ### one's own lists, written -/
section
variable {α : Type} {X : Cx} {R : Res} {rk : RK α} {ρ : List Cell} {st : Stmt} {rest : List Stmt} {κ : Kt} {q : α → Nat → Prop} {e ix : Expr} {pos p1 p2 p3 : Pos} {x : Str} {ds : List D}
theorem jk_app {T : M D} (i : Nat) {k : D → Nat → Prop} (he : JM X R ρ e T) (hr : ∀ d, JK X R rk (ρ.set i (.own (ds ++ [d]))) rest κ q (k d)) (hρ : ρ[i]? = some (.own ds) := by rfl) (hN : X.N[i]? = some x := by rfl)
    (hv : Vis X.env.scope x := by first | exact Or.inl rfl | exact Or.inr (Or.inl rfl) | exact Or.inr (Or.inr rfl)) (hd : (x == ("__debug__" : Str)) = false := by decide) (hcd : (x == ("__classdict__" : Str)) = false := by decide)
    (hs : swapsWith (.Call (.Attribute (.Name x p1) "append" p2) [e] [] p3) none pos.line X.env = pure false := by rfl) (hbase : attributeBase (.Name x p1) "append" X.env (eval (.Name x p1) X.env) = eval (.Name x p1) X.env := by rfl)
    (hfew : ((backTo p3 (starEach (e :: []) X.env)).all (fun x => !x.1) && (backToKw p3 (keywordEach [] X.env)).all (fun x => x.1.isSome) && decide ((e :: ([] : List Expr)).length + ([] : List Keyword).length + (if ([] : List Keyword).isEmpty then 0 else 1) < 30)) = true := by rfl)
    (hline : (p2.endLine == p3.line) = true := by rfl) (hst : starEach (e :: []) X.env = (false, eval e X.env) :: starEach [] X.env := by rfl) (hpl : (backTo p3 (starEach [] X.env)).any (·.1) = false := by rfl) :
    JK X R rk ρ (.Expr (.Call (.Attribute (.Name x p1) "append" p2) [e] [] p3) pos :: rest) κ q (T fun d m => ds.length < sizeLine ∧ k d m) :=
  PSs.imp (pss_cons (ps_expr (pe_bm PySem.F.plainAttrs_list PySem.F.slot_list_append PySem.F.type_list_append mt_append (pe_var (i := i) hN hv hd hcd) (pa_cons he pa_nil hst) hbase hfew hline hst hpl) hs) (pss_any hr)) fun Dn σ H ⟨Gb, G, m, S, g, t, ls⟩ => by
    obtain ⟨l, vs, e1, gl, nv, en, hl, rv⟩ := S.ownT hρ
    refine ⟨.ref l, e1, .inl ⟨rfl, _, .inl (.inl hl)⟩, G, m, _, S, t, fun v d G1 H1 m1 S1 g1 r1 q1 => ?_⟩
    have h1 := g1.hh l _ nv hl
    have rv1 := rv.mono g1.gg
    obtain ⟨S2, gg⟩ := S1.write (vs := vs ++ [v]) hρ e1 (rv1.append (.cons r1 .nil))
    exact ⟨l, vs, v, rfl, rfl, h1, by rw [rv.length]; exact q1.1, d, Gb, G1, m1, S2, gg en (S.tr g g1), q1.2, ls.sm g1.gg⟩
theorem jk_setI {T Ti : M D} (i : Nat) {k : List D → Nat → Prop} (he : JM X R ρ e T) (hi : JM X R ρ ix Ti) (hr : ∀ ds, JK X R rk (ρ.set i (.own ds)) rest κ q (k ds)) (hρ : ρ[i]? = some (.own ds) := by rfl) (hN : X.N[i]? = some x := by rfl)
    (hv : Vis X.env.scope x := by first | exact Or.inl rfl | exact Or.inr (Or.inl rfl) | exact Or.inr (Or.inr rfl)) (hd : (x == ("__debug__" : Str)) = false := by decide) (hcd : (x == ("__classdict__" : Str)) = false := by decide)
    (ha : ∀ v, assign (.Subscript (.Name x p1) ix p2) X.env v = (do
      let ov ← holding [v] (eval (.Name x p1) X.env)
      let iv ← holding [v, ov] (eval ix X.env)
      standAt p2
      holding [v, ov, iv] (setItem ov iv v)
      release [v, ov, iv] []) := by intro _; rfl)
    (hs : swapsWithSole [.Subscript (.Name x p1) ix p2] e pos.line X.env = pure false := by rfl) (hw : swappedStores [.Subscript (.Name x p1) ix p2] e X.env = pure none := by rfl) (h1 : (assignEach [.Subscript (.Name x p1) ix p2] X.env).map (·.2) = [assign (.Subscript (.Name x p1) ix p2) X.env] := by rfl) :
    JK X R rk ρ (.Assign [.Subscript (.Name x p1) ix p2] e pos :: rest) κ q (T fun d => Ti fun z m => ∃ n j, z = .int n ∧ ixN ds.length n = some j ∧ k (ds.set j d) m) :=
  PSs.imp (pss_cons (ps_asg he (pg_sub (pe_var (i := i) hN hv hd hcd) hi set_list ha) hs hw h1) (pss_any hr)) fun Dn σ H ⟨Gb, G, m, S, g, t, ls⟩ => by
    obtain ⟨l, vs, e1, gl, nv, en, hl, rv⟩ := S.ownT hρ
    refine ⟨G, m, _, S, t, fun v d G1 H1 m1 S1 g1 r1 q1 => ⟨.ref l, e1, G1, m1, _, S1, q1, fun w z G2 H2 m2 S2 g2 r2 q2 => ?_⟩⟩
    obtain ⟨n, j, rfl, hj, q2⟩ := q2
    cases r2
    have h2 := g2.hh l _ nv (g1.hh l _ nv hl)
    have rv2 := rv.mono (g1.gg.trans g2.gg)
    obtain ⟨S3, gg⟩ := S2.write (vs := vs.set j v) hρ e1 (rv2.set j (r1.mono g2.gg))
    exact ⟨l, vs, n, j, rfl, rfl, h2, by rw [rv.length]; exact hj, _, Gb, G2, m2, S3, gg en (S1.tr (S.tr g g1) g2), q2, ls.sm (g1.gg.trans g2.gg)⟩
end

/-! ### a, b = x, y: data and new lists -/
inductive CsR (R : Res) (G' H' H0 : Hp) : List V → List Cell → Prop
  | nil : CsR R G' H' H0 [] []
  | dat {v : V} {d : D} {vs : List V} {cs : List Cell} : Rp G' v d → CsR R G' H' H0 vs cs → CsR R G' H' H0 (v :: vs) (.dat d :: cs)
  | own {l : Addr} {ws : List V} {ds : List D} {vs : List V} {cs : List Cell} : G' l = none → ¬ R.vol l → R.ent l = none → H' l = some (.lst ws) → RpL G' ws ds → H0 l = none → V.ref l ∉ vs → CsR R G' H' H0 vs cs → CsR R G' H' H0 (.ref l :: vs) (.own ds :: cs)
def tAc (R : Res) (ρ : List Cell) (n : Nat) (T : M (List Cell)) : TA := fun σ H Q => ∃ G m q, Sit R σ ρ G H m ∧ T q m ∧ ∀ vs cs G' H' m', Sit R σ ρ G' H' m' → Grow R.vol G H G' H' → CsR R G' H' H vs cs → cs.length = n → q cs m' → Q vs H'
def JC (X : Cx) (R : Res) (ρ : List Cell) (es : List Expr) (n : Nat) (T : M (List Cell)) : Prop := PA X es (tAc R ρ n T)
section
variable {R : Res} {G H G' H' H0 H1 : Hp}
theorem CsR.noref {vs : List V} {cs : List Cell} (h : CsR R G' H' H0 vs cs) {l : Addr} (gl : G' l = none) (hl : H0 l ≠ none) : V.ref l ∉ vs := by
  induction h with
  | nil => simp
  | dat r _ ih =>
    intro z
    rcases List.mem_cons.mp z with z | z
    · subst z
      cases r with
      | lst h _ => rw [gl] at h; cases h
      | tup h _ => obtain ⟨_, _, h⟩ := h; rw [gl] at h; cases h
      | dic h => rw [gl] at h; cases h
    · exact ih z
  | own _ _ _ _ _ h0 _ _ ih =>
    intro z
    rcases List.mem_cons.mp z with z | z
    · cases z
      exact hl h0
    · exact ih z
theorem CsR.back {vs : List V} {cs : List Cell} (h : CsR R G' H' H1 vs cs) (f : ∀ p, H1 p = none → H0 p = none) : CsR R G' H' H0 vs cs := by
  induction h with
  | nil => exact .nil
  | dat r _ ih => exact .dat r ih
  | own a b c d e h0 n _ ih => exact .own a b c d e (f _ h0) n ih
theorem CsR.length {vs : List V} {cs : List Cell} (h : CsR R G' H' H0 vs cs) : vs.length = cs.length := by
  induction h with
  | nil => rfl
  | dat _ _ ih => simp [ih]
  | own _ _ _ _ _ _ _ _ ih => simp [ih]
def setS : List Nat → List V → L2.St → L2.St
  | i :: is, v :: vs, σ => setS is vs (σ.set i (some v))
  | _, _, σ => σ
def setR : List Nat → List Cell → List Cell → List Cell
  | i :: is, c :: cs, ρ => setR is cs (ρ.set i c)
  | _, _, ρ => ρ
theorem Sit.setAll {m : Nat} {vs : List V} {cs : List Cell} (h : CsR R G' H' H0 vs cs) : ∀ {is : List Nat} {σ : L2.St} {ρ : List Cell}, Sit R σ ρ G' H' m →
    (∀ (l : Addr) (j : Nat) (es : List D), V.ref l ∈ vs → (G' l = none) → ρ[j]? = some (.own es) → σ[j]? ≠ some (some (.ref l))) → Sit R (setS is vs σ) (setR is cs ρ) G' H' m := by
  induction h with
  | nil => intro is σ ρ S _; cases is <;> exact S
  | @dat v d vs cs r c ih =>
    intro is σ ρ S f
    cases is with
    | nil => exact S
    | cons i is =>
      refine ih (is := is) (S.setD i r) fun l j es hl gl e => ?_
      obtain ⟨n, e⟩ := own_set (c := .dat d) (fun _ z => nomatch z) e
      rw [List.getElem?_set_ne (Ne.symm n)]
      exact f l j es (List.mem_cons_of_mem _ hl) gl e
  | @own l0 ws d vs cs a b en hd r h0 nv c ih =>
    intro is σ ρ S f
    cases is with
    | nil => exact S
    | cons i is =>
      refine ih (is := is) (S.setO i a b en hd r fun j es e => f l0 j es List.mem_cons_self a e) fun l j es hl gl e => ?_
      by_cases hj : i = j
      · subst hj
        by_cases hlt : i < σ.length
        · rw [List.getElem?_set_self hlt]
          intro z
          have z' : l0 = l := by simpa using z
          subst z'
          exact nv hl
        · rw [List.getElem?_eq_none (by simpa using hlt)]
          exact fun z => nomatch z
      · rw [List.getElem?_set_ne hj] at e ⊢
        exact f l j es (List.mem_cons_of_mem _ hl) gl e
end
section
variable {α : Type} {X : Cx} {R : Res} {rk : RK α} {ρ : List Cell} {rest : List Stmt} {κ : Kt} {q : α → Nat → Prop} {e a b c : Expr} {es : List Expr} {pos : Pos} {n : Nat}
theorem jc_nil : JC X R ρ [] 0 (fun q m => q [] m) := PA.imp pa_nil fun _ H _ ⟨G, m, _, S, t, k⟩ => k _ _ G H m S (Grow.refl _ _ _) .nil rfl t
theorem jc_dat {T : M D} {Ts : M (List Cell)} (ha : JM X R ρ e T) (hs : JC X R ρ es n Ts) (hst : starEach (e :: es) X.env = (false, eval e X.env) :: starEach es X.env := by rfl) :
    JC X R ρ (e :: es) (n + 1) (fun q m => T (fun d m1 => Ts (fun cs m2 => q (.dat d :: cs) m2) m1) m) :=
  PA.imp (pa_cons ha hs hst) fun σ H Q ⟨G, m, q, S, t, k⟩ => ⟨G, m, _, S, t, fun v d G1 H1 m1 S1 g1 r1 q1 => ⟨G1, m1, _, S1, q1, fun vs cs G2 H2 m2 S2 g2 c2 l2 q2 =>
    k _ _ G2 H2 m2 S2 (g1.trans S1.vh g2) (.dat (r1.mono g2.gg) (c2.back fun p h => free_of g1 S1.vh h)) (by simp [l2]) q2⟩⟩
theorem jc_own {T : M (List D)} {Ts : M (List Cell)} (ha : JL X R ρ e T) (hs : JC X R ρ es n Ts) (hst : starEach (e :: es) X.env = (false, eval e X.env) :: starEach es X.env := by rfl) :
    JC X R ρ (e :: es) (n + 1) (fun q m => T (fun ds m1 => Ts (fun cs m2 => q (.own ds :: cs) m2) m1) m) :=
  PA.imp (pa_cons ha hs hst) fun σ H Q ⟨G, m, q, S, t, k⟩ => ⟨G, m, _, S, t, fun p ws ds G1 H1 m1 S1 g1 hp gp hp1 r1 q1 => ⟨G1, m1, _, S1, q1, fun vs cs G2 H2 m2 S2 g2 c2 l2 q2 => by
    have nv : ¬ R.vol p := fun v => S.vh p v hp
    have np : H1 p ≠ none := by rw [hp1]; exact fun z => nomatch z
    have gp2 := g2.new p gp np
    exact k _ _ G2 H2 m2 S2 (g1.trans S1.vh g2) (.own gp2 nv (S.en p hp) (g2.hh p _ nv hp1) (r1.mono g2.gg) hp (c2.noref gp2 np) (c2.back fun p h => free_of g1 S1.vh h)) (by simp [l2]) q2⟩⟩
theorem par_read {is : List Nat} {Ts : M (List Cell)} {k : List Cell → Nat → Prop} {rs : List Cell → List Stmt} {Dn : Ends} {σ : L2.St} {H : Hp} {Gb G : Hp} {m : Nat} (S : Sit R σ ρ G H m) (g : Grow R.vol Gb R.ent G H) (t : Ts k m) (ls : Ls R rk Gb G κ q Dn)
    {P : List V → Hp → Prop} (fin : ∀ vs cs G1 H1 m1, cs.length = n → vs.length = n → Sit R (setS is vs σ) (setR is cs ρ) G1 H1 m1 → Grow R.vol Gb R.ent G1 H1 → k cs m1 → Ls R rk Gb G1 κ q Dn → P vs H1) : tAc R ρ n Ts σ H P := by
  refine ⟨G, m, _, S, t, fun vs cs G1 H1 m1 S1 g1 c1 l1 q1 => fin vs cs G1 H1 m1 l1 (c1.length.trans l1) (Sit.setAll c1 S1 fun l j es hl gl e z => ?_) (S.tr g g1) q1 (ls.sm g1.gg)⟩
  obtain ⟨l', ws, e2, _, _, _, hl2, _⟩ := S.ownT e
  rw [z] at e2
  cases e2
  exact c1.noref gl (by rw [hl2]; exact fun z => nomatch z) hl
/-- both names plain locals -/
theorem jk_par {i j : Nat} {x y : Str} {px py pt pt2 : Pos} {kt k2 : Nat} {Ts : M (List Cell)} {k : List Cell → Nat → Prop} {l : Nat} (B : Bx X l) (ha : JC X R ρ [a, b] 2 Ts) (hij : i ≠ j) (hx : X.env.scope.names.lookup x = some .local) (hy : X.env.scope.names.lookup y = some .local)
    (hw : swappedStores [.Tuple [.Name x px, .Name y py] kt pt] (.Tuple [a, b] k2 pt2) X.env = pure (some [x, y])) (hr : ∀ c d, JK X R rk ((ρ.set i c).set j d) rest κ q (k [c, d])) (hi : X.N[i]? = some x := by rfl) (hj : X.N[j]? = some y := by rfl)
    (hs : swapsWithSole [.Tuple [.Name x px, .Name y py] kt pt] (.Tuple [a, b] k2 pt2) pos.line X.env = pure false := by rfl) : JK X R rk ρ (.Assign [.Tuple [.Name x px, .Name y py] kt pt] (.Tuple [a, b] k2 pt2) pos :: rest) κ q (Ts k) :=
  PSs.imp (pss_cons (ps_par B.hc B.nd hi hj hij hx hy ha hw hs) (pss_any fun z : Cell × Cell => hr z.1 z.2)) fun Dn σ H ⟨Gb, G, m, S, g, t, ls⟩ => par_read (is := [i, j]) (rs := fun _ => rest) S g t ls fun vs cs G1 H1 m1 l1 l2 S1 g1 q1 ls1 => by
    match vs, cs, l1, l2, S1, q1 with
    | [v, w], [c, d], _, _, S1, q1 => exact ⟨v, w, rfl, (c, d), Gb, G1, m1, S1, g1, q1, ls1⟩
/-- names of any kind: a tuple is made and taken apart -/
theorem own_tup {m : Nat} {σ : L2.St} {ρ : List Cell} {G H Gb : Hp} {p : Addr} {o : HO} (S : Sit R σ ρ G H m) (g : Grow R.vol Gb R.ent G H) (hp : H p = none) : Sit R σ ρ G (upd H p o) m ∧ Grow R.vol Gb R.ent G (upd H p o) := by
  obtain ⟨g1, s1⟩ := grow_own S.gh hp o
  obtain ⟨S1, g1'⟩ := S.growS g1 s1
  exact ⟨S1, g.trans S.vh g1'⟩
theorem jk_parC {i j : Nat} {x y : Str} {px py pt pt2 : Pos} {kt k2 : Nat} {Ts : M (List Cell)} {k : List Cell → Nat → Prop} {l : Nat} (B : Bx X l) (ha : JC X R ρ [a, b] 2 Ts) (hr : ∀ c d, JK X R rk ((ρ.set i c).set j d) rest κ q (k [c, d])) (hi : X.N[i]? = some x := by rfl) (hj : X.N[j]? = some y := by rfl)
    (hx : Loc X.env.scope x := by first | exact Or.inl rfl | exact Or.inr rfl) (hy : Loc X.env.scope y := by first | exact Or.inl rfl | exact Or.inr rfl) (fx : X.fn x = true ∨ X.env.scope.names.lookup x = some .local := by first | exact .inl rfl | exact .inr rfl) (fy : X.fn y = true ∨ X.env.scope.names.lookup y = some .local := by first | exact .inl rfl | exact .inr rfl)
    (hn : (assignEach [.Name x px, .Name y py] X.env).length = 2 := by rfl) (hst : (assignEach [.Name x px, .Name y py] X.env).findIdx? (·.1) = none := by rfl)
    (h2 : (assignEach [.Name x px, .Name y py] X.env).map (·.2) = assign (.Name x px) X.env :: (assignEach [.Name y py] X.env).map (·.2) := by rfl) (h3 : (assignEach [.Name y py] X.env).map (·.2) = assign (.Name y py) X.env :: (assignEach [] X.env).map (·.2) := by rfl)
    (hs : swapsWithSole [.Tuple [.Name x px, .Name y py] kt pt] (.Tuple [a, b] k2 pt2) pos.line X.env = pure false := by rfl) (hw : swappedStores [.Tuple [.Name x px, .Name y py] kt pt] (.Tuple [a, b] k2 pt2) X.env = pure none := by rfl)
    (h1 : (assignEach [.Tuple [.Name x px, .Name y py] kt pt] X.env).map (·.2) = [assign (.Tuple [.Name x px, .Name y py] kt pt) X.env] := by rfl) : JK X R rk ρ (.Assign [.Tuple [.Name x px, .Name y py] kt pt] (.Tuple [a, b] k2 pt2) pos :: rest) κ q (Ts k) :=
  PSs.imp (pss_cons (ps_asg (pe_tup ha) (pg_tup B.hc (pgs_cons (pg_name (i := i) B.nd hi hx fx) (pgs_cons (pg_name (i := j) B.nd hj hy fy) pgs_nil h3) h2) hn hst) hs hw h1) (pss_any fun z : Cell × Cell => hr z.1 z.2)) fun Dn σ H ⟨Gb, G, m, S, g, t, ls⟩ =>
    par_read (is := [i, j]) (rs := fun _ => rest) S g t ls fun vs cs G1 H1 m1 l1 l2 S1 g1 q1 ls1 => by
      match vs, cs, l1, l2, S1, q1 with
      | [v, w], [c, d], _, _, S1, q1 =>
        refine ⟨(by show 2 ≤ sizeLine; decide), fun p hp => ⟨p, [v, w], rfl, SqT.of upd_same, rfl, v, [w], rfl, w, [], rfl, rfl, (c, d), Gb, G1, m1, ?_⟩⟩
        obtain ⟨S2, g2⟩ := own_tup (o := .tup [v, w]) S1 g1 hp
        exact ⟨S2, g2, q1, ls1⟩
theorem jk_par3 {i j o : Nat} {x y z : Str} {px py pz pt pt2 : Pos} {kt k2 : Nat} {Ts : M (List Cell)} {k : List Cell → Nat → Prop} {l : Nat} (B : Bx X l) (ha : JC X R ρ [a, b, c] 3 Ts) (hij : i ≠ j) (hio : i ≠ o) (hjo : j ≠ o) (hx : X.env.scope.names.lookup x = some .local) (hy : X.env.scope.names.lookup y = some .local) (hz : X.env.scope.names.lookup z = some .local)
    (hw : swappedStores [.Tuple [.Name x px, .Name y py, .Name z pz] kt pt] (.Tuple [a, b, c] k2 pt2) X.env = pure (some [x, y, z])) (hr : ∀ c d e, JK X R rk (((ρ.set i c).set j d).set o e) rest κ q (k [c, d, e])) (hi : X.N[i]? = some x := by rfl) (hj : X.N[j]? = some y := by rfl) (ho : X.N[o]? = some z := by rfl)
    (hs : swapsWithSole [.Tuple [.Name x px, .Name y py, .Name z pz] kt pt] (.Tuple [a, b, c] k2 pt2) pos.line X.env = pure false := by rfl) : JK X R rk ρ (.Assign [.Tuple [.Name x px, .Name y py, .Name z pz] kt pt] (.Tuple [a, b, c] k2 pt2) pos :: rest) κ q (Ts k) :=
  PSs.imp (pss_cons (ps_par3 B.hc B.nd hi hj ho hij hio hjo hx hy hz ha hw hs) (pss_any fun z : Cell × Cell × Cell => hr z.1 z.2.1 z.2.2)) fun Dn σ H ⟨Gb, G, m, S, g, t, ls⟩ => par_read (is := [i, j, o]) (rs := fun _ => rest) S g t ls fun vs cs G1 H1 m1 l1 l2 S1 g1 q1 ls1 => by
    match vs, cs, l1, l2, S1, q1 with
    | [v, w, u], [c, d, e], _, _, S1, q1 => exact ⟨v, w, u, rfl, (c, d, e), Gb, G1, m1, S1, g1, q1, ls1⟩
theorem jk_parC3 {i j o : Nat} {x y z : Str} {px py pz pt pt2 : Pos} {kt k2 : Nat} {Ts : M (List Cell)} {k : List Cell → Nat → Prop} {l : Nat} (B : Bx X l) (ha : JC X R ρ [a, b, c] 3 Ts) (hr : ∀ c d e, JK X R rk (((ρ.set i c).set j d).set o e) rest κ q (k [c, d, e])) (hi : X.N[i]? = some x := by rfl) (hj : X.N[j]? = some y := by rfl) (ho : X.N[o]? = some z := by rfl)
    (hx : Loc X.env.scope x := by first | exact Or.inl rfl | exact Or.inr rfl) (hy : Loc X.env.scope y := by first | exact Or.inl rfl | exact Or.inr rfl) (hz : Loc X.env.scope z := by first | exact Or.inl rfl | exact Or.inr rfl)
    (fx : X.fn x = true ∨ X.env.scope.names.lookup x = some .local := by first | exact .inl rfl | exact .inr rfl) (fy : X.fn y = true ∨ X.env.scope.names.lookup y = some .local := by first | exact .inl rfl | exact .inr rfl) (fz : X.fn z = true ∨ X.env.scope.names.lookup z = some .local := by first | exact .inl rfl | exact .inr rfl)
    (hn : (assignEach [.Name x px, .Name y py, .Name z pz] X.env).length = 3 := by rfl) (hst : (assignEach [.Name x px, .Name y py, .Name z pz] X.env).findIdx? (·.1) = none := by rfl)
    (h2 : (assignEach [.Name x px, .Name y py, .Name z pz] X.env).map (·.2) = assign (.Name x px) X.env :: (assignEach [.Name y py, .Name z pz] X.env).map (·.2) := by rfl) (h3 : (assignEach [.Name y py, .Name z pz] X.env).map (·.2) = assign (.Name y py) X.env :: (assignEach [.Name z pz] X.env).map (·.2) := by rfl)
    (h4 : (assignEach [.Name z pz] X.env).map (·.2) = assign (.Name z pz) X.env :: (assignEach [] X.env).map (·.2) := by rfl)
    (hs : swapsWithSole [.Tuple [.Name x px, .Name y py, .Name z pz] kt pt] (.Tuple [a, b, c] k2 pt2) pos.line X.env = pure false := by rfl) (hw : swappedStores [.Tuple [.Name x px, .Name y py, .Name z pz] kt pt] (.Tuple [a, b, c] k2 pt2) X.env = pure none := by rfl)
    (h1 : (assignEach [.Tuple [.Name x px, .Name y py, .Name z pz] kt pt] X.env).map (·.2) = [assign (.Tuple [.Name x px, .Name y py, .Name z pz] kt pt) X.env] := by rfl) : JK X R rk ρ (.Assign [.Tuple [.Name x px, .Name y py, .Name z pz] kt pt] (.Tuple [a, b, c] k2 pt2) pos :: rest) κ q (Ts k) :=
  PSs.imp (pss_cons (ps_asg (pe_tup ha) (pg_tup B.hc (pgs_cons (pg_name (i := i) B.nd hi hx fx) (pgs_cons (pg_name (i := j) B.nd hj hy fy) (pgs_cons (pg_name (i := o) B.nd ho hz fz) pgs_nil h4) h3) h2) hn hst) hs hw h1) (pss_any fun z : Cell × Cell × Cell => hr z.1 z.2.1 z.2.2)) fun Dn σ H ⟨Gb, G, m, S, g, t, ls⟩ =>
    par_read (is := [i, j, o]) (rs := fun _ => rest) S g t ls fun vs cs G1 H1 m1 l1 l2 S1 g1 q1 ls1 => by
      match vs, cs, l1, l2, S1, q1 with
      | [v, w, u], [c, d, e], _, _, S1, q1 =>
        refine ⟨(by show 3 ≤ sizeLine; decide), fun p hp => ⟨p, [v, w, u], rfl, SqT.of upd_same, rfl, v, [w, u], rfl, w, [u], rfl, u, [], rfl, rfl, (c, d, e), Gb, G1, m1, ?_⟩⟩
        obtain ⟨S2, g2⟩ := own_tup (o := .tup [v, w, u]) S1 g1 hp
        exact ⟨S2, g2, q1, ls1⟩
end

/-! ### a def by its body -/
def startC (N : List Str) (ds : List D) : List Cell := ds.map Cell.dat ++ List.replicate (N.length - ds.length) Cell.no
theorem sit_start {N : List Str} {vs : List V} {ds : List D} {G H : Hp} (gh : Same G H) (r : RpL G vs ds) : Sit (Res.pure H) (L2.start N vs) (startC N ds) G H 0 := by
  have hl := r.length
  refine ⟨⟨gh, fun a v => v.elim, fun a v => v.elim, trivial, trivial, fun p h => h⟩, by simp [L2.start, startC, hl], fun i c e => ?_, fun i j es fs l e1 _ _ _ => ?_⟩
  · unfold startC at e
    by_cases hi : i < ds.length
    · rw [List.getElem?_append_left (by simpa using hi), List.getElem?_map, List.getElem?_eq_getElem hi] at e
      cases e
      obtain ⟨v, hv, rv⟩ := r.get (List.getElem?_eq_getElem hi)
      refine ⟨v, ?_, rv⟩
      unfold L2.start
      rw [List.getElem?_append_left (by simp; omega), List.getElem?_map, hv]
      rfl
    · rw [List.getElem?_append_right (by simpa using hi), List.getElem?_replicate] at e
      split at e
      · cases e; trivial
      · cases e
  · unfold startC at e1
    by_cases hi : i < ds.length
    · rw [List.getElem?_append_left (by simpa using hi), List.getElem?_map, List.getElem?_eq_getElem hi] at e1
      cases e1
    · rw [List.getElem?_append_right (by simpa using hi), List.getElem?_replicate] at e1
      split at e1 <;> cases e1
/-- what falls off the end: None, where the answer may be a datum -/
class Falls {α : Type} (rk : RK α) where
  nx : (α → Nat → Prop) → List Cell → (Nat → Prop) → Prop
  ok : ∀ {R : Res} {Gb : Hp} {q : α → Nat → Prop} {P : VK} {ρ' : List Cell} {b : Nat → Prop} {σ' : L2.St} {G' H' : Hp} {m' : Nat}, Rt R rk Gb q P → nx q ρ' b → b m' → Sit R σ' ρ' G' H' m' → Grow R.vol Gb R.ent G' H' → P .non H'
instance : Falls RK.dat := ⟨fun q _ b => ∀ m, b m → q .none m, fun rt h hb S g => rt _ _ _ _ _ S.toSat g .non (h _ hb)⟩
instance : Falls RK.lst := ⟨fun _ _ _ => False, fun _ h _ _ _ => h.elim⟩
def KtF {α : Type} (rk : RK α) [Falls rk] (q : α → Nat → Prop) : Kt := ⟨Falls.nx rk q, fun _ _ => False, fun _ _ => False⟩
section
variable {α : Type} {P : Program} {w : World} {K : PySem.W.Frag} {mg : Str → Option Value} {base : Heap}
/-- the context of a def's body -/
abbrev cxG (P : Program) (w : World) (K : PySem.W.Frag) (mg : Str → Option Value) (base : Heap) (N : List Str) (x : Str) (st : Stmt) (f : Addr) (cdv : Value) (A : Around) (outer : List Env) (s : Shared) (H : Hp) (E : XK) : Cx := (cxOf CX0 P w K mg base N x (defScope st) f cdv A outer s H E).nox
theorem kn_pure {rk : RK α} [Falls rk] {F : List D → Option α} {x : Str} {st : Stmt} {f : Addr} {fd : FuncData} {N ps : List Str} {k n : Nat} (Fn : Fun K x x st f fd) (mx : mg x = some (.ref f)) (bs : Binds K fd ps []) (Sc : FnScope N ps (defScope st)) (hn : ps.length = n)
    (body : ∀ (cdv : Value) (A : Around) (outer : List Env) (s : Shared) (H : Hp) (E : XK), Bx (cxG P w K mg base N x st f cdv A outer s H E) k → ∀ ds : List D, ds.length = n → ∀ a : α,
      JK (cxG P w K mg base N x st f cdv A outer s H E) (Res.pure H) rk (startC N ds) (defBody st) (KtF rk fun a' _ => a' = a) (fun a' _ => a' = a) (fun _ => F ds = some a)) : Kn P w K mg base x (k + 1) (spR rk n F) := by
  refine ⟨f, fd, ps, fn_g Fn Sc (fun vs H Q E h => ?_) (fun cdv A outer s H vs Q E hg hr h => ?_), mx, Fn.kp, bs⟩
  · obtain ⟨G, ds, a, _, r, l, _⟩ := h
    rw [r.length, l, hn]
  · obtain ⟨G, ds, a, gh, r, l, hF, k⟩ := h
    have B : Bx (cxG P w K mg base N x st f cdv A outer s H E) _ := ⟨hr, hg, rfl, Sc.nd, PassesOwn.never⟩
    refine ⟨_, (body cdv A outer s H E B ds l a).nox, G, G, 0, sit_start gh r, Grow.refl _ _ _, hF, ?_, ?_, ?_, ?_⟩
    · rintro v a' G' H' m' S' g' rr rfl
      exact k v G' H' g' S'.gh rr
    · intro ρ' b σ' G' H' m' h hb S' g' _
      exact Falls.ok (R := Res.pure H) (Gb := G) (q := fun a' _ => a' = a) (P := Q) (fun v a' G' H' m' S' g' rr e => by subst e; exact k v G' H' g' S'.gh rr) h hb S' g'
    · intro _ _ _ _ _ _ h; exact h.elim
    · intro _ _ _ _ _ _ h; exact h.elim
/-- where nothing is claimed -/
theorem kn_none {rk : RK α} {F : List D → Option α} {x : Str} {st : Stmt} {f : Addr} {fd : FuncData} {ps : List Str} {k n : Nat} (Fn : Fun K x x st f fd) (mx : mg x = some (.ref f)) (bs : Binds K fd ps []) (h : ∀ ds, F ds = none) : Kn P w K mg base x k (spR rk n F) := by
  have no : ∀ vs H Q E, ¬ spR rk n F vs H Q E := fun vs H Q E ⟨_, ds, _, _, _, _, e, _⟩ => by rw [h] at e; cases e
  exact ⟨f, fd, ps, ⟨fun vs H Q E z => (no vs H Q E z).elim, fun _ _ _ H _ _ vs Q E _ _ _ _ _ z => (no vs H Q E z).elim⟩, mx, Fn.kp, bs⟩
end
end Dl

set_option Elab.async false
set_option linter.all false
set_option autoImplicit false
set_option maxRecDepth 100000
set_option maxHeartbeats 1000000
namespace Dl
open PySem L2

/-! ### pure code: its answer an Option -/
structure KtE (α : Type) where
  nx : List Cell → Option α → Prop
  bk : List Cell → Option α → Prop
  ct : List Cell → Option α → Prop
def KtE.at {α : Type} (κ : KtE α) (a : α) : Kt := ⟨fun ρ b => ∃ o, κ.nx ρ o ∧ ∀ m, b m → o = some a, fun ρ b => ∃ o, κ.bk ρ o ∧ ∀ m, b m → o = some a, fun ρ b => ∃ o, κ.ct ρ o ∧ ∀ m, b m → o = some a⟩
def JKE {α : Type} (X : Cx) (R : Res) (rk : RK α) (ρ : List Cell) (st : List Stmt) (κ : KtE α) (o : Option α) : Prop := ∀ a, JK X R rk ρ st (κ.at a) (fun a' _ => a' = a) (fun _ => o = some a)
def forO {S α : Type} (body : S → D → (S → Option α) → Option α) : List D → S → (S → Option α) → Option α
  | [], s, k => k s
  | d :: ds, s, k => body s d fun s' => forO body ds s' k
def whileO {S α : Type} (c : S → Option Bool) (body : S → (S → Option α) → Option α) : Nat → S → (S → Option α) → Option α
  | 0, _, _ => none
  | n + 1, s, k => (c s).bind fun t => if t = true then body s (fun s' => whileO c body n s' k) else k s
def KtLE {S α : Type} (env : S → List Cell) (kk : S → Option α) (bk : List Cell → Option α → Prop) : KtE α :=
  ⟨fun ρ' o => ∃ s', Wk ρ' (env s') ∧ o = kk s', bk, fun ρ' o => ∃ s', Wk ρ' (env s') ∧ o = kk s'⟩
section
variable {α S : Type} {X : Cx} {R : Res} {rk : RK α} {ρ : List Cell} {st : Stmt} {rest body A B' : List Stmt} {κ : KtE α} {e c tg iter : Expr} {pos : Pos}
theorem jk_ex {ι : Type} {κ' : Kt} {q : α → Nat → Prop} {sts : List Stmt} {a : ι → Nat → Prop} (h : ∀ i, JK X R rk ρ sts κ' q (a i)) : JK X R rk ρ sts κ' q (fun m => ∃ i, a i m) :=
  ⟨fun pins s σ H Dn I ⟨Gb, G, m, S, g, ⟨i, t⟩, ls⟩ => (h i).run pins s σ H Dn I ⟨Gb, G, m, S, g, t, ls⟩⟩
theorem JKE.eq {sts : List Stmt} {o o' : Option α} (h : JKE X R rk ρ sts κ o) (k : o = o') : JKE X R rk ρ sts κ o' := by rw [← k]; exact h
theorem jke_nil {o : Option α} (h : κ.nx ρ o) : JKE X R rk ρ [] κ o := fun a => jk_nil ⟨o, h, fun _ z => z⟩
theorem jke_pass {o : Option α} (hr : JKE X R rk ρ rest κ o) : JKE X R rk ρ (.Pass pos :: rest) κ o := fun a => jk_pass (hr a)
theorem jke_break {o : Option α} (h : κ.bk ρ o) : JKE X R rk ρ (.Break pos :: rest) κ o := fun a => jk_break ⟨o, h, fun _ z => z⟩
theorem jke_cont {o : Option α} (h : κ.ct ρ o) : JKE X R rk ρ (.Continue pos :: rest) κ o := fun a => jk_cont ⟨o, h, fun _ z => z⟩
theorem bind_lift {β : Type} {oe : Option β} {k : β → Option α} {a : α} {m : Nat} (h : oe.bind k = some a) : lift oe (fun d _ => k d = some a) m := by
  obtain ⟨d, h1, h2⟩ := Option.bind_eq_some_iff.mp h
  exact ⟨d, h1, h2⟩
theorem jke_st {oe : Option D} {i : Nat} {k : D → Option α} (hs : PS X st (tAsg (tJ R ρ (lift oe)) (gName i))) (hr : ∀ d, JKE X R rk (ρ.set i (.dat d)) rest κ (k d)) : JKE X R rk ρ (st :: rest) κ (oe.bind k) := fun a =>
  (jk_st hs (fun d => hr d a)).imp fun _ h => bind_lift h
theorem jke_stL {oe : Option (List D)} {i : Nat} {k : List D → Option α} (hs : PS X st (tAsg (tL R ρ (lift oe)) (gName i))) (hr : ∀ d, JKE X R rk (ρ.set i (.own d)) rest κ (k d)) : JKE X R rk ρ (st :: rest) κ (oe.bind k) := fun a =>
  (jk_stL hs (fun d => hr d a)).imp fun _ h => bind_lift h
theorem PS.tj {T T' : M D} {i : Nat} (hs : PS X st (tAsg (tJ R ρ T) (gName i))) (k : ∀ q m, T' q m → T q m) : PS X st (tAsg (tJ R ρ T') (gName i)) := PS.imp hs fun _ _ _ ⟨G, m, q, S, t, c⟩ => ⟨G, m, q, S, k q m t, c⟩
theorem PS.tl {T T' : M (List D)} {i : Nat} (hs : PS X st (tAsg (tL R ρ T) (gName i))) (k : ∀ q m, T' q m → T q m) : PS X st (tAsg (tL R ρ T') (gName i)) := PS.imp hs fun _ _ _ ⟨G, m, q, S, t, c⟩ => ⟨G, m, q, S, k q m t, c⟩
/-- a new list that all may know -/
theorem ste_shr {oe : Option (List D)} {i : Nat} (h : PS X st (tAsg (tL R ρ (lift oe)) (gName i))) : PS X st (tAsg (tJ R ρ (lift (oe.map PyData.list))) (gName i)) := PS.tj (st_shr h) fun q m ⟨z, h1, h2⟩ => by
  obtain ⟨ds, h3, rfl⟩ := Option.map_eq_some_iff.mp h1
  exact ⟨ds, h3, h2⟩
theorem ste_lend {oe : Option (List D)} {i : Nat} (h : PS X st (tAsg (tL R (brw ρ) (lift oe)) (gName i))) : PS X st (tAsg (tL R ρ (lift (immLO oe))) (gName i)) := PS.tl (st_lend h) fun q m t => by
  obtain ⟨d, h1, h2⟩ := lift1 t
  by_cases z : immL d = true
  · rw [if_pos z] at h2
    exact ⟨d, h1, z, lift_some' h2⟩
  · rw [if_neg z] at h2
    obtain ⟨_, e, _⟩ := h2; cases e
theorem jke_ret {o : Option D} {κ : KtE D} (he : JE X R ρ e o) : JKE X R .dat ρ (.Return (some e) pos :: rest) κ o := fun a => (jk_ret he).imp fun _ h => ⟨a, h, rfl⟩
theorem jke_retN {κ : KtE D} : JKE X R .dat ρ (.Return none pos :: rest) κ (some .none) := fun a => jk_retN.imp fun _ h => Option.some.inj h
theorem jke_retL {o : Option (List D)} {κ : KtE (List D)} (he : JLE X R ρ e o) : JKE X R .lst ρ (.Return (some e) pos :: rest) κ o := fun a => (jk_retL he).imp fun _ h => ⟨a, h, rfl⟩
theorem jke_retO (i : Nat) {x : Str} {ds : List D} {px : Pos} {κ : KtE (List D)} (hρ : ρ[i]? = some (.own ds) := by rfl) (hN : X.N[i]? = some x := by rfl) (hv : Vis X.env.scope x := by first | exact Or.inl rfl | exact Or.inr (Or.inl rfl) | exact Or.inr (Or.inr rfl)) (hd : (x == ("__debug__" : Str)) = false := by decide)
    (hcd : (x == ("__classdict__" : Str)) = false := by decide) : JKE X R .lst ρ (.Return (some (.Name x px)) pos :: rest) κ (some ds) := fun a => (jk_retO i hρ hN hv hd hcd).imp fun _ h => Option.some.inj h
def KtIE (X : Cx) (R : Res) (rk : RK α) (rest : List Stmt) (κ : KtE α) : KtE α := ⟨fun ρ' o => JKE X R rk ρ' rest κ o, κ.bk, κ.ct⟩
theorem at_nx {a : α} (ρ' : List Cell) (b : Nat → Prop) (h : ∃ o, JKE X R rk ρ' rest κ o ∧ ∀ m, b m → o = some a) : JK X R rk ρ' rest (κ.at a) (fun a' _ => a' = a) b := by
  obtain ⟨o, h1, h2⟩ := h
  exact (h1 a).imp h2
theorem jke_if {oc : Option Bool} {oA oB : Option α} (hc : JTE X R ρ c oc) (hA : JKE X R rk ρ A (KtIE X R rk rest κ) oA) (hB : JKE X R rk ρ B' (KtIE X R rk rest κ) oB) : JKE X R rk ρ (.If c A B' pos :: rest) κ (ifO oc oA oB) := fun a =>
  (jk_if hc ((hA a).kmono at_nx (fun _ _ h => h) fun _ _ h => h) ((hB a).kmono at_nx (fun _ _ h => h) fun _ _ h => h)).imp fun _ h => by
    obtain ⟨t, h1, h2⟩ := Option.bind_eq_some_iff.mp h
    refine ⟨t, h1, ?_⟩
    cases t <;> exact h2
theorem jke_expr {oe : Option D} {o : Option α} (he : JE X R ρ e oe) (hr : JKE X R rk ρ rest κ o) (hs : swapsWith e none pos.line X.env = pure false := by rfl) : JKE X R rk ρ (.Expr e pos :: rest) κ (oe.bind fun _ => o) := fun a =>
  (jk_expr he (hr a) hs).imp fun _ h => bind_lift (k := fun _ => o) h
theorem jke_un2 {oe : Option D} {i j : Nat} {k : D → D → Option α} (he : JE X R ρ e oe) (hg : JG X R tg [i, j] (bdT [i, j])) (hr : ∀ a b, JKE X R rk ((ρ.set i (.dat a)).set j (.dat b)) rest κ (k a b))
    (hs : swapsWithSole [tg] e pos.line X.env = pure false := by rfl) (hw : swappedStores [tg] e X.env = pure none := by rfl) (h1 : (assignEach [tg] X.env).map (·.2) = [assign tg X.env] := by rfl) : JKE X R rk ρ (.Assign [tg] e pos :: rest) κ (oe.bind fun d => un2 d k) := fun a =>
  (jk_un2 he hg (fun x y => hr x y a) hs hw h1).imp fun _ h => by
    obtain ⟨d, h1, h2⟩ := Option.bind_eq_some_iff.mp h
    refine ⟨d, h1, ?_⟩
    match d, h2 with
    | .tuple [x, y], h2 => exact h2
theorem jke_un3 {oe : Option D} {i j l : Nat} {k : D → D → D → Option α} (he : JE X R ρ e oe) (hg : JG X R tg [i, j, l] (bdT [i, j, l])) (hr : ∀ a b c, JKE X R rk (((ρ.set i (.dat a)).set j (.dat b)).set l (.dat c)) rest κ (k a b c))
    (hs : swapsWithSole [tg] e pos.line X.env = pure false := by rfl) (hw : swappedStores [tg] e X.env = pure none := by rfl) (h1 : (assignEach [tg] X.env).map (·.2) = [assign tg X.env] := by rfl) : JKE X R rk ρ (.Assign [tg] e pos :: rest) κ (oe.bind fun d => un3 d k) := fun a =>
  (jk_un3 he hg (fun x y z => hr x y z a) hs hw h1).imp fun _ h => by
    obtain ⟨d, h1, h2⟩ := Option.bind_eq_some_iff.mp h
    refine ⟨d, h1, ?_⟩
    match d, h2 with
    | .tuple [x, y, z], h2 => exact h2
def augI (d : D) (oe : Option D) (k : D → Option α) : Option α := oe.bind fun y => match d, y with
  | .int a, .int b => k (.int (a + b))
  | _, _ => none
theorem jke_augI {oe : Option D} {i : Nat} {x : Str} {p' : Pos} {d : D} {k : D → Option α} (he : JE X R ρ e oe) (hr : ∀ d, JKE X R rk (ρ.set i (.dat d)) rest κ (k d)) (hN : X.N.Nodup) (hρ : ρ[i]? = some (.dat d) := by rfl) (hi : X.N[i]? = some x := by rfl) (hx : Loc X.env.scope x := by first | exact Or.inl rfl | exact Or.inr rfl)
    (hf : X.fn x = true ∨ X.env.scope.names.lookup x = some .local := by first | exact .inl rfl | exact .inr rfl) : JKE X R rk ρ (.AugAssign (.Name x p') .Add e pos :: rest) κ (augI d oe k) := fun a =>
  (jk_augI he (fun d => hr d a) hN hρ hi hx hf).imp fun _ h => by
    obtain ⟨y, h1, h2⟩ := Option.bind_eq_some_iff.mp h
    refine ⟨y, h1, ?_⟩
    match d, y, h2 with
    | .int a, .int b, h2 => exact ⟨a, b, rfl, rfl, h2⟩
def augL (ds : List D) (oe : Option (List D)) (k : List D → Option α) : Option α := oe.bind fun es => if ds.length + es.length ≤ sizeLine then k (ds ++ es) else none
theorem jke_augL {oe : Option (List D)} {i : Nat} {x : Str} {p' : Pos} {ds : List D} {k : List D → Option α} (he : JLE X R ρ e oe) (hr : ∀ ds, JKE X R rk (ρ.set i (.own ds)) rest κ (k ds)) (hN : X.N.Nodup) (hρ : ρ[i]? = some (.own ds) := by rfl) (hi : X.N[i]? = some x := by rfl) (hx : Loc X.env.scope x := by first | exact Or.inl rfl | exact Or.inr rfl)
    (hf : X.fn x = true ∨ X.env.scope.names.lookup x = some .local := by first | exact .inl rfl | exact .inr rfl) : JKE X R rk ρ (.AugAssign (.Name x p') .Add e pos :: rest) κ (augL ds oe k) := fun a =>
  (jk_augL he (fun d => hr d a) hN hρ hi hx hf).imp fun _ h => by
    obtain ⟨y, h1, h2⟩ := Option.bind_eq_some_iff.mp h
    by_cases z : ds.length + y.length ≤ sizeLine
    · rw [if_pos z] at h2
      exact ⟨y, h1, z, h2⟩
    · rw [if_neg z] at h2; cases h2
def appO (ds : List D) (oe : Option D) (k : List D → Option α) : Option α := oe.bind fun d => if ds.length < sizeLine then k (ds ++ [d]) else none
theorem jke_app {oe : Option D} (i : Nat) {x : Str} {ds : List D} {p1 p2 p3 : Pos} {k : List D → Option α} (he : JE X R ρ e oe) (hr : ∀ ds, JKE X R rk (ρ.set i (.own ds)) rest κ (k ds)) (hρ : ρ[i]? = some (.own ds) := by rfl) (hN : X.N[i]? = some x := by rfl)
    (hv : Vis X.env.scope x := by first | exact Or.inl rfl | exact Or.inr (Or.inl rfl) | exact Or.inr (Or.inr rfl)) (hd : (x == ("__debug__" : Str)) = false := by decide) (hcd : (x == ("__classdict__" : Str)) = false := by decide)
    (hs : swapsWith (.Call (.Attribute (.Name x p1) "append" p2) [e] [] p3) none pos.line X.env = pure false := by rfl) (hbase : attributeBase (.Name x p1) "append" X.env (eval (.Name x p1) X.env) = eval (.Name x p1) X.env := by rfl)
    (hfew : ((backTo p3 (starEach (e :: []) X.env)).all (fun x => !x.1) && (backToKw p3 (keywordEach [] X.env)).all (fun x => x.1.isSome) && decide ((e :: ([] : List Expr)).length + ([] : List Keyword).length + (if ([] : List Keyword).isEmpty then 0 else 1) < 30)) = true := by rfl)
    (hline : (p2.endLine == p3.line) = true := by rfl) (hst : starEach (e :: []) X.env = (false, eval e X.env) :: starEach [] X.env := by rfl) (hpl : (backTo p3 (starEach [] X.env)).any (·.1) = false := by rfl) :
    JKE X R rk ρ (.Expr (.Call (.Attribute (.Name x p1) "append" p2) [e] [] p3) pos :: rest) κ (appO ds oe k) := fun a =>
  (jk_app i he (fun d => hr _ a) hρ hN hv hd hcd hs hbase hfew hline hst hpl).imp fun _ h => by
    obtain ⟨d, h1, h2⟩ := Option.bind_eq_some_iff.mp h
    by_cases z : ds.length < sizeLine
    · rw [if_pos z] at h2
      exact ⟨d, h1, z, h2⟩
    · rw [if_neg z] at h2; cases h2
def setIO (ds : List D) (oe oi : Option D) (k : List D → Option α) : Option α := oe.bind fun d => oi.bind fun z => match z with
  | .int n => (ixN ds.length n).bind fun j => k (ds.set j d)
  | _ => none
theorem jke_setI {oe oi : Option D} {ix : Expr} (i : Nat) {x : Str} {ds : List D} {p1 p2 : Pos} {k : List D → Option α} (he : JE X R ρ e oe) (hi : JE X R ρ ix oi) (hr : ∀ ds, JKE X R rk (ρ.set i (.own ds)) rest κ (k ds)) (hρ : ρ[i]? = some (.own ds) := by rfl) (hN : X.N[i]? = some x := by rfl)
    (hv : Vis X.env.scope x := by first | exact Or.inl rfl | exact Or.inr (Or.inl rfl) | exact Or.inr (Or.inr rfl)) (hd : (x == ("__debug__" : Str)) = false := by decide) (hcd : (x == ("__classdict__" : Str)) = false := by decide)
    (ha : ∀ v, assign (.Subscript (.Name x p1) ix p2) X.env v = (do
      let ov ← holding [v] (eval (.Name x p1) X.env)
      let iv ← holding [v, ov] (eval ix X.env)
      standAt p2
      holding [v, ov, iv] (setItem ov iv v)
      release [v, ov, iv] []) := by intro _; rfl)
    (hs : swapsWithSole [.Subscript (.Name x p1) ix p2] e pos.line X.env = pure false := by rfl) (hw : swappedStores [.Subscript (.Name x p1) ix p2] e X.env = pure none := by rfl) (h1 : (assignEach [.Subscript (.Name x p1) ix p2] X.env).map (·.2) = [assign (.Subscript (.Name x p1) ix p2) X.env] := by rfl) :
    JKE X R rk ρ (.Assign [.Subscript (.Name x p1) ix p2] e pos :: rest) κ (setIO ds oe oi k) := fun a =>
  (jk_setI i he hi (fun d => hr d a) hρ hN hv hd hcd ha hs hw h1).imp fun _ h => by
    obtain ⟨d, h1, h2⟩ := Option.bind_eq_some_iff.mp h
    obtain ⟨z, h3, h4⟩ := Option.bind_eq_some_iff.mp h2
    refine ⟨d, h1, z, h3, ?_⟩
    match z, h4 with
    | .int n, h4 =>
      obtain ⟨j, h5, h6⟩ := Option.bind_eq_some_iff.mp h4
      exact ⟨n, j, rfl, h5, h6⟩
/-- a, b = x, y -/
abbrev JCE (X : Cx) (R : Res) (ρ : List Cell) (es : List Expr) (n : Nat) (o : Option (List Cell)) : Prop := JC X R ρ es n (lift o)
theorem jce_nil : JCE X R ρ [] 0 (some []) := PA.imp jc_nil fun _ _ _ ⟨G, m, q, S, t, c⟩ => ⟨G, m, q, S, lift_some' t, c⟩
theorem JC.imp {es : List Expr} {n : Nat} {T T' : M (List Cell)} (h : JC X R ρ es n T) (k : ∀ q m, T' q m → T q m) : JC X R ρ es n T' := PA.imp h fun _ _ _ ⟨G, m, q, S, t, c⟩ => ⟨G, m, q, S, k q m t, c⟩
def consD (oa : Option D) (os : Option (List Cell)) : Option (List Cell) := oa.bind fun d => os.bind fun cs => some (.dat d :: cs)
def consL (oa : Option (List D)) (os : Option (List Cell)) : Option (List Cell) := oa.bind fun d => os.bind fun cs => some (.own d :: cs)
theorem jce_dat {es : List Expr} {n : Nat} {oa : Option D} {os : Option (List Cell)} (ha : JE X R ρ e oa) (hs : JCE X R ρ es n os) (hst : starEach (e :: es) X.env = (false, eval e X.env) :: starEach es X.env := by rfl) : JCE X R ρ (e :: es) (n + 1) (consD oa os) :=
  (jc_dat ha hs hst).imp fun q m h => by
    obtain ⟨x, h1, h2⟩ := lift1 h
    obtain ⟨xs, h3, h4⟩ := lift1 h2
    exact ⟨x, h1, xs, h3, lift_some' h4⟩
theorem jce_own {es : List Expr} {n : Nat} {oa : Option (List D)} {os : Option (List Cell)} (ha : JLE X R ρ e oa) (hs : JCE X R ρ es n os) (hst : starEach (e :: es) X.env = (false, eval e X.env) :: starEach es X.env := by rfl) : JCE X R ρ (e :: es) (n + 1) (consL oa os) :=
  (jc_own ha hs hst).imp fun q m h => by
    obtain ⟨x, h1, h2⟩ := lift1 h
    obtain ⟨xs, h3, h4⟩ := lift1 h2
    exact ⟨x, h1, xs, h3, lift_some' h4⟩
/-- a cell by its kind -/
def onD (k : D → Option α) : Cell → Option α
  | .dat d => k d
  | _ => none
def onL (k : List D → Option α) : Cell → Option α
  | .own d => k d
  | _ => none
def cel2 (k : Cell → Cell → Option α) : List Cell → Option α
  | [c, d] => k c d
  | _ => none
def cel3 (k : Cell → Cell → Cell → Option α) : List Cell → Option α
  | [c, d, e] => k c d e
  | _ => none
theorem jke_onD {c : Cell} {k : D → Option α} {sts : List Stmt} {f : Cell → List Cell} (h : ∀ d, JKE X R rk (f (.dat d)) sts κ (k d)) : JKE X R rk (f c) sts κ (onD k c) := by
  cases c with
  | dat d => exact h d
  | _ => intro a; exact ⟨fun _ _ _ _ _ _ ⟨_, _, _, _, _, t, _⟩ => nomatch t⟩
theorem jke_onL {c : Cell} {k : List D → Option α} {sts : List Stmt} {f : Cell → List Cell} (h : ∀ d, JKE X R rk (f (.own d)) sts κ (k d)) : JKE X R rk (f c) sts κ (onL k c) := by
  cases c with
  | own d => exact h d
  | _ => intro a; exact ⟨fun _ _ _ _ _ _ ⟨_, _, _, _, _, t, _⟩ => nomatch t⟩
variable {a b c' : Expr}
theorem jke_par {i j : Nat} {x y : Str} {px py pt pt2 : Pos} {kt k2 : Nat} {os : Option (List Cell)} {k : Cell → Cell → Option α} {l : Nat} (B : Bx X l) (ha : JCE X R ρ [a, b] 2 os) (hr : ∀ c d, JKE X R rk ((ρ.set i c).set j d) rest κ (k c d)) (hij : i ≠ j := by decide) (hx : X.env.scope.names.lookup x = some .local := by rfl) (hy : X.env.scope.names.lookup y = some .local := by rfl)
    (hw : swappedStores [.Tuple [.Name x px, .Name y py] kt pt] (.Tuple [a, b] k2 pt2) X.env = pure (some [x, y]) := by rfl) (hi : X.N[i]? = some x := by rfl) (hj : X.N[j]? = some y := by rfl)
    (hs : swapsWithSole [.Tuple [.Name x px, .Name y py] kt pt] (.Tuple [a, b] k2 pt2) pos.line X.env = pure false := by rfl) : JKE X R rk ρ (.Assign [.Tuple [.Name x px, .Name y py] kt pt] (.Tuple [a, b] k2 pt2) pos :: rest) κ (os.bind (cel2 k)) := fun v =>
  (jk_par (k := fun cs _ => cel2 k cs = some v) B ha hij hx hy hw (fun c d => hr c d v) hi hj hs).imp fun _ h => bind_lift h
theorem jke_parC {i j : Nat} {x y : Str} {px py pt pt2 : Pos} {kt k2 : Nat} {os : Option (List Cell)} {k : Cell → Cell → Option α} {l : Nat} (B : Bx X l) (ha : JCE X R ρ [a, b] 2 os) (hr : ∀ c d, JKE X R rk ((ρ.set i c).set j d) rest κ (k c d)) (hi : X.N[i]? = some x := by rfl) (hj : X.N[j]? = some y := by rfl)
    (hx : Loc X.env.scope x := by first | exact Or.inl rfl | exact Or.inr rfl) (hy : Loc X.env.scope y := by first | exact Or.inl rfl | exact Or.inr rfl) (fx : X.fn x = true ∨ X.env.scope.names.lookup x = some .local := by first | exact .inl rfl | exact .inr rfl) (fy : X.fn y = true ∨ X.env.scope.names.lookup y = some .local := by first | exact .inl rfl | exact .inr rfl)
    (hn : (assignEach [.Name x px, .Name y py] X.env).length = 2 := by rfl) (hst : (assignEach [.Name x px, .Name y py] X.env).findIdx? (·.1) = none := by rfl)
    (h2 : (assignEach [.Name x px, .Name y py] X.env).map (·.2) = assign (.Name x px) X.env :: (assignEach [.Name y py] X.env).map (·.2) := by rfl) (h3 : (assignEach [.Name y py] X.env).map (·.2) = assign (.Name y py) X.env :: (assignEach [] X.env).map (·.2) := by rfl)
    (hs : swapsWithSole [.Tuple [.Name x px, .Name y py] kt pt] (.Tuple [a, b] k2 pt2) pos.line X.env = pure false := by rfl) (hw : swappedStores [.Tuple [.Name x px, .Name y py] kt pt] (.Tuple [a, b] k2 pt2) X.env = pure none := by rfl)
    (h1 : (assignEach [.Tuple [.Name x px, .Name y py] kt pt] X.env).map (·.2) = [assign (.Tuple [.Name x px, .Name y py] kt pt) X.env] := by rfl) : JKE X R rk ρ (.Assign [.Tuple [.Name x px, .Name y py] kt pt] (.Tuple [a, b] k2 pt2) pos :: rest) κ (os.bind (cel2 k)) := fun v =>
  (jk_parC (k := fun cs _ => cel2 k cs = some v) B ha (fun c d => hr c d v) hi hj hx hy fx fy hn hst h2 h3 hs hw h1).imp fun _ h => bind_lift h
theorem jke_par3 {i j o : Nat} {x y z : Str} {px py pz pt pt2 : Pos} {kt k2 : Nat} {os : Option (List Cell)} {k : Cell → Cell → Cell → Option α} {l : Nat} (B : Bx X l) (ha : JCE X R ρ [a, b, c'] 3 os) (hr : ∀ c d e, JKE X R rk (((ρ.set i c).set j d).set o e) rest κ (k c d e)) (hij : i ≠ j := by decide) (hio : i ≠ o := by decide) (hjo : j ≠ o := by decide)
    (hx : X.env.scope.names.lookup x = some .local := by rfl) (hy : X.env.scope.names.lookup y = some .local := by rfl) (hz : X.env.scope.names.lookup z = some .local := by rfl)
    (hw : swappedStores [.Tuple [.Name x px, .Name y py, .Name z pz] kt pt] (.Tuple [a, b, c'] k2 pt2) X.env = pure (some [x, y, z]) := by rfl) (hi : X.N[i]? = some x := by rfl) (hj : X.N[j]? = some y := by rfl) (ho : X.N[o]? = some z := by rfl)
    (hs : swapsWithSole [.Tuple [.Name x px, .Name y py, .Name z pz] kt pt] (.Tuple [a, b, c'] k2 pt2) pos.line X.env = pure false := by rfl) : JKE X R rk ρ (.Assign [.Tuple [.Name x px, .Name y py, .Name z pz] kt pt] (.Tuple [a, b, c'] k2 pt2) pos :: rest) κ (os.bind (cel3 k)) := fun v =>
  (jk_par3 (k := fun cs _ => cel3 k cs = some v) B ha hij hio hjo hx hy hz hw (fun c d e => hr c d e v) hi hj ho hs).imp fun _ h => bind_lift h
/- loops -/
variable {env : S → List Cell} {s0 : S} {k : S → Option α}
theorem forO_K {bodyO : S → D → (S → Option α) → Option α} {a : α} {m : Nat} : ∀ {ds : List D} {s : S} {k : S → Option α} {kM : S → Nat → Prop}, (∀ s m, k s = some a → kM s m) → forO bodyO ds s k = some a →
    forK (fun s d kkM _ => ∃ kk : { kk : S → Option α // ∀ s' m, kk s' = some a → kkM s' m }, bodyO s d kk.1 = some a) ds s kM m
  | [], s, k, kM, hk, h => hk s m h
  | d :: ds, s, k, kM, hk, h => by
    refine ⟨⟨fun s' => forO bodyO ds s' k, fun s' m' h' => ?_⟩, h⟩
    exact forO_K (m := m') hk h'
theorem loop_k {kkM : S → Nat → Prop} {a : α} {sts : List Stmt} {o : Option α} (kk : { kk : S → Option α // ∀ s' m, kk s' = some a → kkM s' m }) (h : JKE X R rk ρ sts (KtLE env kk.1 fun ρ' o => JKE X R rk ρ' rest κ o) o) :
    JK X R rk ρ sts (KtL env kkM fun ρ' b => JK X R rk ρ' rest (κ.at a) (fun a' _ => a' = a) b) (fun a' _ => a' = a) (fun _ => o = some a) :=
  (h a).kmono (fun ρ' b ⟨o, ⟨s', w, e⟩, hb⟩ => ⟨s', w, fun m hm => kk.2 s' m (by rw [← e]; exact hb m hm)⟩) (fun ρ' b h => at_nx ρ' b h) fun ρ' b ⟨o, ⟨s', w, e⟩, hb⟩ => ⟨s', w, fun m hm => kk.2 s' m (by rw [← e]; exact hb m hm)⟩
theorem jke_for1 {oi : Option (List D)} {i n : Nat} {bodyO : S → D → (S → Option α) → Option α} (B : Bx X n) (hi : JIE X R ρ tg iter oi) (hg : JG X R tg [i] (bd1 i)) (w0 : Wk ρ (env s0))
    (hb : ∀ (s : S) (d : D) (kk : S → Option α), JKE X R rk ((env s).set i (.dat d)) body (KtLE env kk fun ρ' o => JKE X R rk ρ' rest κ o) (bodyO s d kk)) (hr : ∀ s, JKE X R rk (env s) rest κ (k s)) (hs : ∀ x, foldedSetIterable iter X.env x = pure x := by intro _; rfl) :
    JKE X R rk ρ (.For tg iter body [] pos :: rest) κ (oi.bind fun ds => forO bodyO ds s0 k) := fun a =>
  (jk_for (env := env) (s0 := s0) (k := fun s _ => k s = some a) (bodyM := fun s d kkM _ => ∃ kk : { kk : S → Option α // ∀ s' m, kk s' = some a → kkM s' m }, bodyO s d kk.1 = some a) B hi hg w0
    (fun s d kkM m h => ⟨_, rfl, jk_ex fun kk => loop_k kk (hb s d kk.1)⟩) (fun s => hr s a) hs).imp fun m h => by
      obtain ⟨ds, h1, h2⟩ := Option.bind_eq_some_iff.mp h
      exact ⟨ds, h1, forO_K (fun _ _ z => z) h2⟩
theorem jke_for2 {oi : Option (List D)} {i j n : Nat} {bodyO : S → D → D → (S → Option α) → Option α} (B : Bx X n) (hi : JIE X R ρ tg iter oi) (hg : JG X R tg [i, j] (bdT [i, j])) (w0 : Wk ρ (env s0))
    (hb : ∀ (s : S) (d e : D) (kk : S → Option α), JKE X R rk (((env s).set i (.dat d)).set j (.dat e)) body (KtLE env kk fun ρ' o => JKE X R rk ρ' rest κ o) (bodyO s d e kk)) (hr : ∀ s, JKE X R rk (env s) rest κ (k s)) (hs : ∀ x, foldedSetIterable iter X.env x = pure x := by intro _; rfl) :
    JKE X R rk ρ (.For tg iter body [] pos :: rest) κ (oi.bind fun ds => forO (fun s d kk => un2 d fun x y => bodyO s x y kk) ds s0 k) := fun a =>
  (jk_for (env := env) (s0 := s0) (k := fun s _ => k s = some a) (bodyM := fun s d kkM _ => ∃ kk : { kk : S → Option α // ∀ s' m, kk s' = some a → kkM s' m }, (un2 d fun x y => bodyO s x y kk.1) = some a) B hi hg w0
    (fun s d kkM m h => by
      obtain ⟨kk, h⟩ := h
      match d, h with
      | .tuple [x, y], h => exact ⟨_, rfl, jk_ex fun kk => loop_k kk (hb s x y kk.1)⟩) (fun s => hr s a) hs).imp fun m h => by
      obtain ⟨ds, h1, h2⟩ := Option.bind_eq_some_iff.mp h
      exact ⟨ds, h1, forO_K (bodyO := fun s d kk => un2 d fun x y => bodyO s x y kk) (fun _ _ z => z) h2⟩
theorem whileO_K {cO : S → Option Bool} {bodyO : S → (S → Option α) → Option α} {a : α} : ∀ {n : Nat} {s : S} {k : S → Option α} {kM : S → Nat → Prop} {m : Nat}, (∀ s m, k s = some a → kM s m) → whileO cO bodyO n s k = some a →
    whileK (fun s => lift (cO s)) (fun s kkM _ => ∃ kk : { kk : S → Option α // ∀ s' m, kk s' = some a → kkM s' m }, bodyO s kk.1 = some a) n s kM m
  | 0, s, k, kM, m, hk, h => by cases h
  | n + 1, s, k, kM, m, hk, h => by
    obtain ⟨t, h1, h2⟩ := Option.bind_eq_some_iff.mp h
    refine ⟨t, h1, ?_⟩
    cases t with
    | false => exact hk s m h2
    | true => exact ⟨⟨fun s' => whileO cO bodyO n s' k, fun s' m' h' => whileO_K hk h'⟩, h2⟩
theorem jke_while {cO : S → Option Bool} {bodyO : S → (S → Option α) → Option α} {n l : Nat} (B : Bx X l) (w0 : Wk ρ (env s0)) (hc : ∀ s, JTE X R (env s) c (cO s))
    (hb : ∀ (s : S) (kk : S → Option α), JKE X R rk (env s) body (KtLE env kk fun ρ' o => JKE X R rk ρ' rest κ o) (bodyO s kk)) (hr : ∀ s, JKE X R rk (env s) rest κ (k s)) : JKE X R rk ρ (.While c body [] pos :: rest) κ (whileO cO bodyO n s0 k) := fun a =>
  (jk_while (env := env) (s0 := s0) (k := fun s _ => k s = some a) (bodyM := fun s kkM _ => ∃ kk : { kk : S → Option α // ∀ s' m, kk s' = some a → kkM s' m }, bodyO s kk.1 = some a) B w0 hc (fun s kkM => jk_ex fun kk => loop_k kk (hb s kk.1)) (fun s => hr s a)).imp fun m h => whileO_K (fun _ _ z => z) h
end
def KtFL : KtE (List D) := ⟨fun _ _ => False, fun _ _ => False, fun _ _ => False⟩
def KtFD : KtE D := ⟨fun _ o => o = some .none, fun _ _ => False, fun _ _ => False⟩
section
variable {P : Program} {w : World} {K : PySem.W.Frag} {mg : Str → Option Value} {base : Heap}
theorem kn_dat {F : List D → Option D} {x : Str} {st : Stmt} {f : Addr} {fd : FuncData} {N ps : List Str} {k n : Nat} (Fn : Fun K x x st f fd) (mx : mg x = some (.ref f)) (bs : Binds K fd ps []) (Sc : FnScope N ps (defScope st)) (hn : ps.length = n)
    (body : ∀ (cdv : Value) (A : Around) (outer : List Env) (s : Shared) (H : Hp) (E : XK), Bx (cxG P w K mg base N x st f cdv A outer s H E) k → ∀ ds : List D, ds.length = n → JKE (cxG P w K mg base N x st f cdv A outer s H E) (Res.pure H) .dat (startC N ds) (defBody st) KtFD (F ds)) : Kn P w K mg base x (k + 1) (spR .dat n F) :=
  kn_pure Fn mx bs Sc hn fun cdv A outer s H E B ds hl a => (body cdv A outer s H E B ds hl a).kmono (fun ρ b ⟨o, e, h⟩ m hb => by
    have h := h m hb
    rw [show o = some .none from e] at h
    exact Option.some.inj h) (fun _ _ ⟨_, h, _⟩ => h) fun _ _ ⟨_, h, _⟩ => h
theorem kn_lst {F : List D → Option (List D)} {x : Str} {st : Stmt} {f : Addr} {fd : FuncData} {N ps : List Str} {k n : Nat} (Fn : Fun K x x st f fd) (mx : mg x = some (.ref f)) (bs : Binds K fd ps []) (Sc : FnScope N ps (defScope st)) (hn : ps.length = n)
    (body : ∀ (cdv : Value) (A : Around) (outer : List Env) (s : Shared) (H : Hp) (E : XK), Bx (cxG P w K mg base N x st f cdv A outer s H E) k → ∀ ds : List D, ds.length = n → JKE (cxG P w K mg base N x st f cdv A outer s H E) (Res.pure H) .lst (startC N ds) (defBody st) KtFL (F ds)) : Kn P w K mg base x (k + 1) (spR .lst n F) :=
  kn_pure Fn mx bs Sc hn fun cdv A outer s H E B ds hl a => (body cdv A outer s H E B ds hl a).kmono (fun _ _ ⟨_, h, _⟩ => h) (fun _ _ ⟨_, h, _⟩ => h) fun _ _ ⟨_, h, _⟩ => h
end
end Dl

set_option Elab.async false
set_option linter.all false
set_option autoImplicit false
set_option maxRecDepth 100000
set_option maxHeartbeats 1000000
namespace Dl
open PySem L2

/-! ### truth of any datum -/
def asT : D → Option Bool
  | .none => some false
  | .bool b => some b
  | .int i => some (i != 0)
  | .str y => if y.length ≤ sizeLine then some ((y.length : Int) != 0) else none
  | .list xs => some (!xs.isEmpty)
  | .tuple xs => some (!xs.isEmpty)
  | .dict _ => none
theorem isE_len {α β : Type} {xs : List α} {ys : List β} (h : xs.length = ys.length) : (!xs.isEmpty) = !ys.isEmpty := by
  cases xs <;> cases ys <;> simp_all
theorem tru_d {K : PySem.W.Frag} {G H : Hp} {v : V} {d : D} {b : Bool} (gh : Same G H) (r : Rp G v d) (h : asT d = some b) : TruV K v H b := by
  cases r with
  | non => cases h; rfl
  | bl c => cases h; rfl
  | int i => cases h; rfl
  | str z =>
    simp only [asT, Option.ite_none_right_eq_some, Option.some.injEq] at h
    exact ⟨h.1, h.2.symm⟩
  | lst hp r =>
    cases h
    exact .inl ⟨_, SqL.of (gh _ _ hp), isE_len r.length.symm⟩
  | tup hp r =>
    cases h
    exact .inr (.inl ⟨_, (hp.sqm gh), isE_len r.length.symm⟩)
  | dic hp => cases h
section
variable {X : Cx} {R : Res} {ρ : List Cell} {e a b c : Expr} {pos : Pos}
theorem jt_tru {T : M D} (h : JM X R ρ e T) (he : ∀ whole, isTrue e X.env whole = (do let v ← whole; standAt e.pos; holding [v] (truthy v)) := by intro _; rfl) : JT X R ρ e (fun q => T fun d m => lift (asT d) q m) := by
  refine PT.imp (pt_truth h he) fun σ H Q ⟨G, m, q, S, t, k⟩ => ⟨G, m, _, S, t, fun v d G' H' m' S' g r hq => ?_⟩
  obtain ⟨b, hb, hq⟩ := hq
  exact ⟨b, tru_d S'.gh r hb, k b G' H' m' S' g hq⟩
theorem jte_tru {o : Option D} (h : JE X R ρ e o) (he : ∀ whole, isTrue e X.env whole = (do let v ← whole; standAt e.pos; holding [v] (truthy v)) := by intro _; rfl) : JTE X R ρ e (o.bind asT) := (jt_tru h he).imp fun _ _ => lift1

/-! ### lists by a test -/
theorem jl_if {Tc : M Bool} {Ta Tb : M (List D)} (hc : JT X R ρ c Tc) (ha : JL X R ρ a Ta) (hb : JL X R ρ b Tb) : JL X R ρ (.IfExp c a b pos) (fun q m => Tc (fun t m1 => if t = true then Ta q m1 else Tb q m1) m) := by
  refine PE.imp (pe_ifExp hc ha hb) fun σ H Q ⟨G, m, q, S, t, k⟩ => ⟨G, m, _, S, t, fun c G1 H1 m1 S1 g1 q1 => ?_⟩
  cases c with
  | true =>
    show tL R ρ Ta σ H1 Q
    exact ⟨G1, m1, q, S1, q1, fun p vs ds G2 H2 m2 S2 g2 hp gp hp2 r2 q2 => k p vs ds G2 H2 m2 S2 (g1.trans S1.vh g2) (free_of g1 S1.vh hp) gp hp2 r2 q2⟩
  | false =>
    show tL R ρ Tb σ H1 Q
    exact ⟨G1, m1, q, S1, q1, fun p vs ds G2 H2 m2 S2 g2 hp gp hp2 r2 q2 => k p vs ds G2 H2 m2 S2 (g1.trans S1.vh g2) (free_of g1 S1.vh hp) gp hp2 r2 q2⟩
theorem jle_if {oc : Option Bool} {oa ob : Option (List D)} (hc : JTE X R ρ c oc) (ha : JLE X R ρ a oa) (hb : JLE X R ρ b ob) : JLE X R ρ (.IfExp c a b pos) (ifO oc oa ob) := (jl_if hc ha hb).imp fun q m h => by
  obtain ⟨t, h1, h2⟩ := lift1 h
  refine ⟨t, h1, ?_⟩
  cases t <;> exact h2

/-! ### zip -/
def zipD : List D → List D → List D
  | x :: xs, y :: ys => .tuple [x, y] :: zipD xs ys
  | _, _ => []
theorem zipD_len : ∀ (xs ys : List D), (zipD xs ys).length = min xs.length ys.length
  | [], _ => by simp [zipD]
  | _ :: _, [] => by simp [zipD]
  | x :: xs, y :: ys => by simp [zipD, zipD_len xs ys]
theorem zipD_at : ∀ {xs ys : List D} {i : Nat} {x y : D}, xs[i]? = some x → ys[i]? = some y → (zipD xs ys)[i]? = some (.tuple [x, y])
  | [], _, _, _, _, h, _ => by simp at h
  | _ :: _, [], _, _, _, _, h => by simp at h
  | x :: xs, y :: ys, 0, _, _, h, k => by cases h; cases k; trivial
  | x :: xs, y :: ys, i + 1, _, _, h, k => zipD_at (xs := xs) (ys := ys) (i := i) (by simpa using h) (by simpa using k)
def dZip : D → D → Option (List D)
  | .list xs, .list ys => some (zipD xs ys)
  | .tuple xs, .tuple ys => some (zipD xs ys)
  | _, _ => none
theorem walk_zl {elts : List Expr} {kk : Nat} {tpos : Pos} {K : PySem.W.Frag} {G : Hp} {p q : Addr} {vs ws : List V} {ds es : List D} (hp : G p = some (.lst vs)) (hq : G q = some (.lst ws)) (r : RpL G vs ds) (r2 : RpL G ws es) : IsWalk (.Tuple elts kk tpos) G (Itz K p q) (zipD ds es) where
  go := fun i H s hi => by
    rw [zipD_len] at hi
    have h1 : i < vs.length := by rw [r.length]; omega
    have h2 : i < ws.length := by rw [r2.length]; omega
    exact ⟨vs, ws, _, _, SqL.of (s _ _ hp), SqL.of (s _ _ hq), List.getElem?_eq_getElem h1, List.getElem?_eq_getElem h2⟩
  stop := fun H s => ⟨vs, ws, SqL.of (s _ _ hp), SqL.of (s _ _ hq), by rw [zipD_len, r.length, r2.length]; omega⟩
  yld := fun i H x H' s hi y => by
    obtain ⟨T, x, y, rfl, hT, rfl, f1, f2⟩ := y
    obtain ⟨d, hd, rd⟩ := r.getV (f1 _ (SqL.of (s _ _ hp)))
    obtain ⟨e, he, re⟩ := r2.getV (f2 _ (SqL.of (s _ _ hq)))
    exact ⟨_, zipD_at hd he, .inr ⟨⟨_, _, _, rfl⟩, T, _, _, rfl, hT, rfl, rfl, .cons rd (.cons re .nil)⟩⟩
theorem walk_zt {elts : List Expr} {kk : Nat} {tpos : Pos} {K : PySem.W.Frag} {G : Hp} {p q : Addr} {vs ws : List V} {ds es : List D} (hp : Tu G p vs) (hq : Tu G q ws) (r : RpL G vs ds) (r2 : RpL G ws es) : IsWalk (.Tuple elts kk tpos) G (RZ.ItzT K p q) (zipD ds es) where
  go := fun i H s hi => by
    rw [zipD_len] at hi
    have h1 : i < vs.length := by rw [r.length]; omega
    have h2 : i < ws.length := by rw [r2.length]; omega
    exact ⟨vs, ws, _, _, (hp.sqm s), (hq.sqm s), List.getElem?_eq_getElem h1, List.getElem?_eq_getElem h2⟩
  stop := fun H s => ⟨vs, ws, (hp.sqm s), (hq.sqm s), by rw [zipD_len, r.length, r2.length]; omega⟩
  yld := fun i H x H' s hi y => by
    obtain ⟨T, x, y, rfl, hT, rfl, f1, f2⟩ := y
    obtain ⟨d, hd, rd⟩ := r.getV (f1 _ ((hp.sqm s)))
    obtain ⟨e, he, re⟩ := r2.getV (f2 _ ((hq.sqm s)))
    exact ⟨_, zipD_at hd he, .inr ⟨⟨_, _, _, rfl⟩, T, _, _, rfl, hT, rfl, rfl, .cons rd (.cons re .nil)⟩⟩
theorem ji_zip {Ts : M (List D)} {p tpos : Pos} {elts : List Expr} {kk : Nat} (hm : X.mg "zip" = none) (ha : JA X R ρ [a, b] 2 Ts) (hg : Gl X "zip" := by rfl)
    (hs : starEach [a, b] X.env = (false, eval a X.env) :: starEach [b] X.env := by rfl) (hpl : (backTo pos (starEach [b] X.env)).any (·.1) = false := by rfl) : JI X R ρ (.Tuple elts kk tpos) (.Call (.Name "zip" p) [a, b] [] pos) (fun q => Ts fun ds => lift (F2 dZip ds) q) := by
  refine PI.imp (RZ.pi_zipA hg hm ha hs hpl) fun σ H Rr ⟨G, m, q, S, t, k⟩ => ⟨G, m, _, S, t, fun vs ds G1 H1 m1 S1 g1 r1 l1 q1 => ?_⟩
  obtain ⟨es, hd, q1⟩ := q1
  cases r1 with
  | nil => cases hd
  | cons r1 r2 =>
    cases r2 with
    | nil => cases hd
    | cons r2 r3 =>
      cases r3 with
      | cons _ _ => cases hd
      | nil =>
        cases r1 with
        | lst h1 ra =>
          cases r2 with
          | lst h2 rb =>
            cases hd
            exact ⟨_, _, _, _, rfl, .inl ⟨SqL.of (S1.gh _ _ h1), SqL.of (S1.gh _ _ h2), k _ _ G1 H1 m1 S1 g1 (walk_zl h1 h2 ra rb) q1⟩⟩
          | _ => cases hd
        | tup h1 ra =>
          cases r2 with
          | tup h2 rb =>
            cases hd
            exact ⟨_, _, _, _, rfl, .inr ⟨(h1.sqm S1.gh), (h2.sqm S1.gh), k _ _ G1 H1 m1 S1 g1 (walk_zt h1 h2 ra rb) q1⟩⟩
          | _ => cases hd
        | _ => cases r2 <;> cases hd
theorem jie_zip {oa ob : Option D} {p tpos : Pos} {elts : List Expr} {kk : Nat} (hm : X.mg "zip" = none) (ha : JE X R ρ a oa) (hb : JE X R ρ b ob) (hg : Gl X "zip" := by rfl)
    (hs : starEach [a, b] X.env = (false, eval a X.env) :: starEach [b] X.env := by rfl) (hs2 : starEach [b] X.env = (false, eval b X.env) :: starEach [] X.env := by rfl) (hpl : (backTo pos (starEach [b] X.env)).any (·.1) = false := by rfl) : JIE X R ρ (.Tuple elts kk tpos) (.Call (.Name "zip" p) [a, b] [] pos) (C2 dZip oa ob) :=
  (ji_zip hm (jae_cons ha (jae_cons hb jae_nil hs2) hs) hg hs hpl).imp fun q m h => liftF (by rw [c2_eq]; exact h)
theorem JIE.new {tg : Expr} {o : Option (List D)} (h : JLE X R ρ e o) : JIE X R ρ tg e o := ji_new h
end

/-! ### sum -/
theorem cd_sum {K : PySem.W.Frag} : CallD (rSum K) (F1 fun d => match d with | .list xs => (intsOf xs).map fun ns => PyData.int ns.sum | _ => none) := by
  intro G H vs ds z Q gh r hF k
  cases r with
  | nil => cases hF
  | cons a b =>
    cases b with
    | cons _ _ => cases hF
    | nil =>
      cases a with
      | @lst p vs ds hp r =>
        obtain ⟨bs, h1, rfl⟩ := Option.map_eq_some_iff.mp (show (intsOf ds).map _ = some z from hF)
        have e := intsOf_eq h1
        subst e
        have e := r.ints
        subst e
        exact ⟨p, bs, rfl, SqL.of (gh _ _ hp), k _ G H (Grow.refl _ _ _) gh (.int _)⟩
      | _ => cases hF

/-! ### a list of one's own is given away -/
section
variable {α : Type} {X : Cx} {R : Res} {rk : RK α} {ρ : List Cell} {st : Stmt} {rest A B' : List Stmt} {κ : Kt} {q : α → Nat → Prop} {e c : Expr} {pos : Pos}
theorem Sit.shareO {σ : L2.St} {G H : Hp} {m : Nat} (S : Sit R σ ρ G H m) {i : Nat} {ds : List D} (hρ : ρ[i]? = some (.own ds)) : ∃ G', Sit R σ (ρ.set i (.dat (.list ds))) G' H m ∧ Same G G' ∧ ∀ {Gb : Hp}, Grow R.vol Gb R.ent G H → Grow R.vol Gb R.ent G' H := by
  obtain ⟨l, vs, e, gl, nv, en, hl, r⟩ := S.ownT hρ
  obtain ⟨g1, g2⟩ := grow_share S.gh gl hl
  have hi : i < ρ.length := (List.getElem?_eq_some_iff.mp hρ).1
  refine ⟨upd G l (.lst vs), ⟨⟨g2, fun a v => ?_, S.vh, R.sm g1 S.js, S.jd, S.en⟩, by simp [S.len], fun j c ec => ?_, fun j k es fs l' e1 e2 e3 e4 => ?_⟩, g1, fun g => ⟨g.gg.trans g1, g.hh, fun a ga ha => ?_⟩⟩
  · rw [upd_ne fun z : a = l => nv (z ▸ v)]; exact S.vg a v
  · by_cases hj : i = j
    · subst hj
      rw [List.getElem?_set_self hi] at ec
      cases ec
      exact ⟨_, e, .lst upd_same (r.mono g1)⟩
    · rw [List.getElem?_set_ne hj] at ec
      have q := S.cell j c ec
      cases c with
      | no => trivial
      | raw v => exact q
      | dat d =>
        obtain ⟨v, e, rv⟩ := q
        exact ⟨v, e, rv.mono g1⟩
      | own fs =>
        obtain ⟨l2, vs2, q1, q2, q3, q6, q4, q5⟩ := q
        refine ⟨l2, vs2, q1, ?_, q3, q6, q4, q5.mono g1⟩
        rw [upd_ne (fun z => hj (S.apart i j ds fs l hρ ec e (by rw [q1, z])))]
        exact q2
  · obtain ⟨n1, e1⟩ := own_set (c := .dat (.list ds)) (fun _ z => nomatch z) e1
    obtain ⟨n2, e2⟩ := own_set (c := .dat (.list ds)) (fun _ z => nomatch z) e2
    exact S.apart j k es fs l' e1 e2 e3 e4
  · by_cases z : a = l
    · subst z; exact absurd en ha
    · rw [upd_ne z]; exact g.new a ga ha
theorem jk_give {sts : List Stmt} {a : Nat → Prop} (i : Nat) {ds : List D} (h : JK X R rk (ρ.set i (.dat (.list ds))) sts κ q a) (hρ : ρ[i]? = some (.own ds) := by rfl) : JK X R rk ρ sts κ q a :=
  PSs.imp h fun Dn σ H ⟨Gb, G, m, S, g, t, ls⟩ => by
    obtain ⟨G', S', s', g'⟩ := S.shareO hρ
    exact ⟨Gb, G', m, S', g' g, t, ls.sm s'⟩
theorem JK.weak {ρ' : List Cell} {sts : List Stmt} {a : Nat → Prop} (h : JK X R rk ρ' sts κ q a) (w : Wk ρ ρ') : JK X R rk ρ sts κ q a :=
  PSs.imp h fun Dn σ H ⟨Gb, G, m, S, g, t, ls⟩ => ⟨Gb, G, m, S.weak w, g, t, ls⟩
/-! ### two ways that meet again -/
def KtJ {S : Type} (env : S → List Cell) (kk : S → Nat → Prop) (κ : Kt) : Kt := ⟨fun ρ' b => ∃ s', Wk ρ' (env s') ∧ ∀ m, b m → kk s' m, κ.bk, κ.ct⟩
def joinK {S : Type} (k : S → Nat → Prop) (b : (S → Nat → Prop) → Nat → Prop) : Nat → Prop := b k
theorem jk_ifJ {S : Type} {env : S → List Cell} {k : S → Nat → Prop} {Tc : M Bool} {aA aB : (S → Nat → Prop) → Nat → Prop} (hc : JT X R ρ c Tc) (hA : ∀ kk, JK X R rk ρ A (KtJ env kk κ) q (aA kk)) (hB : ∀ kk, JK X R rk ρ B' (KtJ env kk κ) q (aB kk)) (hr : ∀ s, JK X R rk (env s) rest κ q (k s)) :
    JK X R rk ρ (.If c A B' pos :: rest) κ q (joinK k fun kk => Tc fun t m => if t = true then aA kk m else aB kk m) := by
  have key : ∀ (ρ' : List Cell) (b : Nat → Prop), (∃ s', Wk ρ' (env s') ∧ ∀ m, b m → k s' m) → JK X R rk ρ' rest κ q b := fun ρ' b ⟨s', w, hb⟩ => ((hr s').weak w).imp hb
  exact jk_if hc ((hA k).kmono key (fun _ _ h => h) fun _ _ h => h) ((hB k).kmono key (fun _ _ h => h) fun _ _ h => h)
end
section
variable {α : Type} {X : Cx} {R : Res} {rk : RK α} {ρ : List Cell} {st : Stmt} {rest A B' : List Stmt} {κ : KtE α} {e c : Expr} {pos : Pos}
theorem jke_give {sts : List Stmt} {o : Option α} (i : Nat) {ds : List D} (h : JKE X R rk (ρ.set i (.dat (.list ds))) sts κ o) (hρ : ρ[i]? = some (.own ds) := by rfl) : JKE X R rk ρ sts κ o := fun a => jk_give i (h a) hρ
theorem JKE.weak {ρ' : List Cell} {sts : List Stmt} {o : Option α} (h : JKE X R rk ρ' sts κ o) (w : Wk ρ ρ') : JKE X R rk ρ sts κ o := fun a => (h a).weak w
theorem JKE.kmono {κ' : KtE α} {sts : List Stmt} {o : Option α} (h : JKE X R rk ρ sts κ o) (k1 : ∀ ρ b, κ.nx ρ b → κ'.nx ρ b) (k2 : ∀ ρ b, κ.bk ρ b → κ'.bk ρ b) (k3 : ∀ ρ b, κ.ct ρ b → κ'.ct ρ b) : JKE X R rk ρ sts κ' o := fun a =>
  (h a).kmono (fun ρ b ⟨o, h, z⟩ => ⟨o, k1 ρ o h, z⟩) (fun ρ b ⟨o, h, z⟩ => ⟨o, k2 ρ o h, z⟩) fun ρ b ⟨o, h, z⟩ => ⟨o, k3 ρ o h, z⟩
def KtJE {S : Type} (env : S → List Cell) (kk : S → Option α) (κ : KtE α) : KtE α := ⟨fun ρ' o => ∃ s', Wk ρ' (env s') ∧ o = kk s', κ.bk, κ.ct⟩
def joinO {S α : Type} (k : S → Option α) (b : (S → Option α) → Option α) : Option α := b k
theorem jke_ifJ {S : Type} {env : S → List Cell} {k : S → Option α} {oc : Option Bool} {oA oB : (S → Option α) → Option α} (hc : JTE X R ρ c oc) (hA : ∀ kk, JKE X R rk ρ A (KtJE env kk κ) (oA kk)) (hB : ∀ kk, JKE X R rk ρ B' (KtJE env kk κ) (oB kk)) (hr : ∀ s, JKE X R rk (env s) rest κ (k s)) :
    JKE X R rk ρ (.If c A B' pos :: rest) κ (joinO k fun kk => ifO oc (oA kk) (oB kk)) := by
  have key : ∀ (ρ' : List Cell) (o : Option α), (∃ s', Wk ρ' (env s') ∧ o = k s') → JKE X R rk ρ' rest κ o := fun ρ' o ⟨s', w, e⟩ => by subst e; exact (hr s').weak w
  exact jke_if hc ((hA k).kmono key (fun _ _ h => h) fun _ _ h => h) ((hB k).kmono key (fun _ _ h => h) fun _ _ h => h)
/-- the end of a block that is followed by what is said of its cells -/
theorem jke_end {S : Type} {env : S → List Cell} {kk : S → Option α} (s : S) (w : Wk ρ (env s)) : JKE X R rk ρ [] (KtJE env kk κ) (kk s) := jke_nil ⟨s, w, rfl⟩
theorem jke_endL {S : Type} {env : S → List Cell} {kk : S → Option α} {bk : List Cell → Option α → Prop} (s : S) (w : Wk ρ (env s)) : JKE X R rk ρ [] (KtLE env kk bk) (kk s) := jke_nil ⟨s, w, rfl⟩
theorem jke_contL {S : Type} {env : S → List Cell} {kk : S → Option α} {bk : List Cell → Option α → Prop} (s : S) (w : Wk ρ (env s)) : JKE X R rk ρ (.Continue pos :: rest) (KtLE env kk bk) (kk s) := jke_cont ⟨s, w, rfl⟩
end
section
variable {P : Program} {w : World} {K : PySem.W.Frag} {mg : Str → Option Value} {base : Heap} {x : Str} {sp : Sp}
theorem Kn.mono {j k : Nat} (h : Kn P w K mg base x j sp) (l : j ≤ k := by omega) : Kn P w K mg base x k sp := by
  obtain ⟨f, fd, ps, F, r⟩ := h
  exact ⟨f, fd, ps, F.mono l, r⟩
end
/-- the equation first -/
theorem JM.by {X : Cx} {R : Res} {ρ : List Cell} {e : Expr} {o o' : Option D} (k : o = o') (h : JE X R ρ e o) : JE X R ρ e o' := h.eq k
theorem JL.by {X : Cx} {R : Res} {ρ : List Cell} {e : Expr} {o o' : Option (List D)} (k : o = o') (h : JLE X R ρ e o) : JLE X R ρ e o' := h.eq k
end Dl

set_option Elab.async false
set_option linter.all false
set_option autoImplicit false
set_option maxRecDepth 100000
set_option maxHeartbeats 1000000
namespace Dl
open PySem L2
def dLe : D → D → Option D := dCmp fun i j => decide (i ≤ j)
def dGt : D → D → Option D := dCmp fun i j => decide (j < i)
def dGe : D → D → Option D := dCmp fun i j => decide (j ≤ i)
theorem od_le : OpD (rI0 fun i j => V.bl (decide (i ≤ j))) dLe := od_cmp
theorem od_gt : OpD (rI0 fun i j => V.bl (decide (j < i))) dGt := od_cmp
theorem od_ge : OpD (rI0 fun i j => V.bl (decide (j ≤ i))) dGe := od_cmp
def dSumL : D → Option D := fun d => match d with | .list xs => (intsOf xs).map fun ns => PyData.int ns.sum | _ => none
theorem cd_sumL {K : PySem.W.Frag} : CallD (rSum K) (F1 dSumL) := cd_sum
section
variable {X : Cx} {R : Res} {ρ : List Cell} {tg iter elt : Expr} {ifs : List Expr} {scope : Scope} {own : List (Str × Nat)} {pos : Pos} {k : Nat}
/-- name = [..] with the name a plain local: pure -/
theorem ste_lc1 {oi : Option (List D)} {i j : Nat} {y : Str} {py spos : Pos} {ot : D → Option Bool} {oe : D → Option D} (B : Bx X k) (hi : JIE X R ρ tg iter oi) (ok : BlkOk X.N X.env.scope scope own)
    (hg : ∀ (s : Shared) (H : Hp) (C : Addr) (cl : List (Str × Addr)) (fp : List Addr), JG (X.blk s H scope (compEnvC scope cl C X.env) fp) R tg [i] (bd1 i))
    (ht : ∀ d, OkTE X R scope ((wipeC ρ (own.map (·.2))).set i (.dat d)) ifs (ot d)) (he : ∀ d, OkEE X R scope ((wipeC ρ (own.map (·.2))).set i (.dat d)) elt (oe d))
    (hy : X.N[j]? = some y := by rfl) (hyl : X.env.scope.names.lookup y = some .local := by rfl) (hsw : swapsWith (.ListComp elt [⟨tg, iter, ifs, 0⟩] scope pos) (some (.Name y py)) spos.line X.env = pure true := by rfl)
    (hsl : ∀ j ∈ [i], j ∈ own.map (·.2) := by decide) (hs : ∀ x, foldedSetIterable iter X.env x = pure x := by intro _; rfl) : PS X (.Assign [.Name y py] (.ListComp elt [⟨tg, iter, ifs, 0⟩] scope pos) spos) (tAsg (tL R ρ (lift (lcO oi fun d => turnO (ot d) (oe d)))) (gName j)) :=
  PS.tl (js_lc B hy hyl hsw hi ok hsl hg (f := fun d => lift (turnO (ot d) (oe d))) (fun d q m h => ⟨_, _, _, rfl, ht d, he d, turnO_M h⟩) hs) fun _ _ => lcO_lcM
theorem ste_lc2 {oi : Option (List D)} {i1 i2 j : Nat} {y : Str} {py spos : Pos} {ot : D → D → Option Bool} {oe : D → D → Option D} (B : Bx X k) (hi : JIE X R ρ tg iter oi) (ok : BlkOk X.N X.env.scope scope own)
    (hg : ∀ (s : Shared) (H : Hp) (C : Addr) (cl : List (Str × Addr)) (fp : List Addr), JG (X.blk s H scope (compEnvC scope cl C X.env) fp) R tg [i1, i2] (bdT [i1, i2]))
    (ht : ∀ a b, OkTE X R scope (((wipeC ρ (own.map (·.2))).set i1 (.dat a)).set i2 (.dat b)) ifs (ot a b)) (he : ∀ a b, OkEE X R scope (((wipeC ρ (own.map (·.2))).set i1 (.dat a)).set i2 (.dat b)) elt (oe a b))
    (hy : X.N[j]? = some y := by rfl) (hyl : X.env.scope.names.lookup y = some .local := by rfl) (hsw : swapsWith (.ListComp elt [⟨tg, iter, ifs, 0⟩] scope pos) (some (.Name y py)) spos.line X.env = pure true := by rfl)
    (hsl : ∀ l ∈ [i1, i2], l ∈ own.map (·.2) := by decide) (hs : ∀ x, foldedSetIterable iter X.env x = pure x := by intro _; rfl) : PS X (.Assign [.Name y py] (.ListComp elt [⟨tg, iter, ifs, 0⟩] scope pos) spos) (tAsg (tL R ρ (lift (lcO oi fun d => un2 d fun a b => turnO (ot a b) (oe a b)))) (gName j)) :=
  PS.tl (js_lc B hy hyl hsw hi ok hsl hg (f := fun d => lift (un2 d fun a b => turnO (ot a b) (oe a b))) (fun d q m h => by
    obtain ⟨z, h1, h2⟩ := h
    match d, h1 with
    | .tuple [a, b], h1 => exact ⟨_, _, _, rfl, ht a b, he a b, turnO_M ⟨z, h1, h2⟩⟩) hs) fun _ _ => lcO_lcM
theorem okTE_one {c : Expr} {o : Option Bool} (h : ∀ (s : Shared) (H : Hp) (C : Addr) (cl : List (Str × Addr)) (fp : List Addr), JTE (X.blk s H scope (compEnvC scope cl C X.env) fp) R ρ c o) : OkTE X R scope ρ [c] o := okT_one h
end
end Dl

set_option Elab.async false
set_option linter.all false
set_option autoImplicit false
set_option maxRecDepth 100000
set_option maxHeartbeats 1000000
namespace Dl
open PySem L2 PySem.Spec PyProof.Rows

/-! ### sum, of a tuple too -/
def rSumT (K : PySem.W.Frag) : List V → Hp → VK → Prop := fun vs H Q => ∃ (a : Addr) (ns : List Int), vs = [V.ref a] ∧ SqT K H a (ns.map V.int) ∧ Q (.int ns.sum) H
theorem cr_sumT {X : Cx} (hc : X.calm = true) : CallR X (.builtin "sum") (rSumT X.K) := by
  intro pins s σ H vs us Q I r h
  obtain ⟨a, ns, rfl, hs, q⟩ := h
  obtain ⟨its, rv, hl, _⟩ := I.tuple hs
  rw [Vals.ref1 r]
  have hi := rv.ints
  obtain ⟨xs, e⟩ := hi.allInts.items
  have hn : numsOf (intItems xs).toList = ns := by rw [← e]; exact hi.numsOf
  rw [nums_intItems] at hn
  have hl2 : s.heap.IsTuple a its.toArray := hl
  rw [e] at hl2
  refine PySem.W.ktm_sumG (I.ok.hd hc) hl2 fun h' tk t' hk => ⟨.int ns.sum, H, I.kept hk, ⟨t', ?_⟩, q⟩
  rw [preSum_eq, List.take_of_length_le (by simp), hn]
theorem cd_sumA {K : PySem.W.Frag} : CallD (fun vs H Q => rSum K vs H Q ∨ rSumT K vs H Q) (F1 dSum) := by
  intro G H vs ds z Q gh r hF k
  cases r with
  | nil => cases hF
  | cons a b =>
    cases b with
    | cons _ _ => cases hF
    | nil =>
      cases a with
      | @lst p vs ds hp r =>
        obtain ⟨bs, h1, rfl⟩ := Option.map_eq_some_iff.mp (show (intsOf ds).map _ = some z from hF)
        have e := intsOf_eq h1
        subst e
        have e := r.ints
        subst e
        exact .inl ⟨p, bs, rfl, SqL.of (gh _ _ hp), k _ G H (Grow.refl _ _ _) gh (.int _)⟩
      | @tup p vs ds hp r =>
        obtain ⟨bs, h1, rfl⟩ := Option.map_eq_some_iff.mp (show (intsOf ds).map _ = some z from hF)
        have e := intsOf_eq h1
        subst e
        have e := r.ints
        subst e
        exact .inr ⟨p, bs, rfl, (hp.sqm gh), k _ G H (Grow.refl _ _ _) gh (.int _)⟩
      | _ => cases hF
theorem cr_sumA {X : Cx} (hc : X.calm = true) : CallR X (.builtin "sum") (fun vs H Q => rSum X.K vs H Q ∨ rSumT X.K vs H Q) := by
  intro pins s σ H vs us Q I r h
  rcases h with h | h
  · exact cr_sum hc pins s σ H vs us Q I r h
  · exact cr_sumT hc pins s σ H vs us Q I r h

/-! ### slices -/
def cutD (xs : List D) (lo hi : Option Int) : List D := (xs.drop (HT.sIx xs.length 0 lo)).take (HT.sIx xs.length xs.length hi - HT.sIx xs.length 0 lo)
theorem RpL.cut {G : Hp} {vs : List V} {ds : List D} (r : RpL G vs ds) (lo hi : Option Int) : RpL G (cutV vs lo hi) (cutD ds lo hi) := by
  unfold cutV cutD
  rw [r.length]
  exact (r.drop _).take _
theorem cutD_all {xs : List D} {lo hi : Option Int} (h1 : HT.sIx xs.length 0 lo = 0) (h2 : HT.sIx xs.length xs.length hi = xs.length) : cutD xs lo hi = xs := by
  unfold cutD
  rw [h1, h2]; simp
def dCut : D → Option Int → Option Int → Option D
  | .list xs, lo, hi => some (.list (cutD xs lo hi))
  | .tuple xs, lo, hi => some (.tuple (cutD xs lo hi))
  | .str z, lo, hi => if z.length ≤ sizeLine then some (.str (cutS z lo hi)) else none
  | _, _, _ => none
def slO (oe : Option D) (lo hi : Option (Option Int)) : Option D := oe.bind fun d => lo.bind fun l => hi.bind fun u => dCut d l u
def asI : D → Option (Option Int)
  | .int i => some (some i)
  | _ => none
def tO (R : Res) (ρ : List Cell) (T : M (Option Int)) : TO := fun σ H Q => ∃ G m q, Sit R σ ρ G H m ∧ T q m ∧ ∀ o G' H' m', Sit R σ ρ G' H' m' → Grow R.vol G H G' H' → q o m' → Q o H'
def JO (X : Cx) (R : Res) (ρ : List Cell) (e : Option Expr) (T : M (Option Int)) : Prop := PO X e (tO R ρ T)
theorem PO.imp {X : Cx} {e : Option Expr} {t t' : TO} (h : PO X e t) (k : ∀ σ H Q, t' σ H Q → t σ H Q) : PO X e t' := ⟨fun pins s σ H Q I q => h.run pins s σ H Q I (k σ H Q q)⟩
section
variable {X : Cx} {R : Res} {ρ : List Cell} {e a b c : Expr} {pos p2 : Pos} {lo hi : Option Expr}
theorem JO.imp {T T' : M (Option Int)} {e : Option Expr} (h : JO X R ρ e T) (k : ∀ q m, T' q m → T q m) : JO X R ρ e T' := PO.imp h fun _ _ _ ⟨G, m, q, S, t, c⟩ => ⟨G, m, q, S, k q m t, c⟩
theorem jom_none : JO X R ρ none (fun q m => q none m) := PO.imp po_none fun _ H _ ⟨G, m, _, S, t, k⟩ => k _ G H m S (Grow.refl _ _ _) t
theorem jom_some {T : M D} (h : JM X R ρ e T) : JO X R ρ (some e) (fun q => T fun d => lift (asI d) q) := PO.imp (po_some h) fun σ H Q ⟨G, m, q, S, t, k⟩ => ⟨G, m, _, S, t, fun v d G1 H1 m1 S1 g1 r1 q1 => by
  obtain ⟨o, ho, q1⟩ := q1
  cases r1 with
  | int i => cases ho; exact ⟨i, rfl, k _ G1 H1 m1 S1 g1 q1⟩
  | _ => cases ho⟩
theorem jo_none : JO X R ρ none (lift (some none)) := jom_none.imp fun _ _ => lift_some'
theorem jo_some {o : Option D} (h : JE X R ρ e o) : JO X R ρ (some e) (lift (o.bind asI)) := (jom_some h).imp fun _ _ => lift1
theorem jm_slice {T : M D} {Tl Th : M (Option Int)} (he : JM X R ρ e T) (hl : JO X R ρ lo Tl) (hh : JO X R ρ hi Th) : JM X R ρ (.Subscript e (.Slice lo hi none p2) pos) (fun q => T fun d => Tl fun l => Th fun u => lift (dCut d l u) q) := by
  refine PE.imp (pe_slice (sl_list.or (sl_tupF.or sl_str)) he hl hh) fun σ H Q ⟨G, m, q, S, t, k⟩ => ⟨G, m, _, S, t, fun v d G1 H1 m1 S1 g1 r1 q1 => ⟨G1, m1, _, S1, q1, fun l G2 H2 m2 S2 g2 q2 => ⟨G2, m2, _, S2, q2, fun u G3 H3 m3 S3 g3 q3 => ?_⟩⟩⟩
  obtain ⟨z, hz, q3⟩ := q3
  have r3 := (r1.mono g2.gg).mono g3.gg
  have g := (g1.trans S1.vh g2).trans S2.vh g3
  cases r3 with
  | @lst p vs ds hp r =>
    cases hz
    refine .inl ⟨p, vs, rfl, SqL.of (S3.gh _ _ hp), fun q' hq => ?_⟩
    obtain ⟨g4, s4⟩ := grow_new S3.gh hq (.lst (cutV vs l u))
    obtain ⟨S4, g4'⟩ := S3.growS g4 s4
    exact k _ _ _ _ m3 S4 (g.trans S3.vh g4') (.lst upd_same ((r.cut l u).mono g4.gg)) q3
  | @tup p vs ds hp r =>
    cases hz
    have rl := r.length
    refine .inr (.inl ⟨p, vs, rfl, (hp.sqm S3.gh), fun ⟨h1, h2⟩ => ?_, fun _ q' o ho hq => ?_⟩)
    · rw [rl] at h1 h2
      rw [cutD_all h1 h2] at q3
      exact k _ _ G3 H3 m3 S3 g (.tup hp r) q3
    · obtain ⟨g4, s4⟩ := grow_new S3.gh hq (.frz o (.tup (cutV vs l u)))
      obtain ⟨S4, g4'⟩ := S3.growS g4 s4
      exact k _ _ _ _ m3 S4 (g.trans S3.vh g4') (.tup (Tu.new ho) ((r.cut l u).mono g4.gg)) q3
  | str z =>
    simp only [dCut, Option.ite_none_right_eq_some, Option.some.injEq] at hz
    obtain ⟨hz, rfl⟩ := hz
    exact .inr (.inr ⟨z, rfl, hz, k _ _ G3 H3 m3 S3 g (.str _) q3⟩)
  | _ => cases hz
theorem je_slice {oe : Option D} {ol oh : Option (Option Int)} (he : JE X R ρ e oe) (hl : JO X R ρ lo (lift ol)) (hh : JO X R ρ hi (lift oh)) : JE X R ρ (.Subscript e (.Slice lo hi none p2) pos) (slO oe ol oh) := (jm_slice he hl hh).imp fun q m h => by
  obtain ⟨d, h1, h2⟩ := lift1 h
  obtain ⟨l, h3, h4⟩ := lift1 h2
  exact ⟨d, h1, l, h3, lift1 h4⟩
/-! ### -x -/
def dNeg : D → Option D
  | .int i => some (.int (-i))
  | _ => none
theorem jm_neg {T : M D} (h : JM X R ρ e T) : JM X R ρ (.UnaryOp .USub e pos) (fun q => T fun d => lift (dNeg d) q) := PE.imp (pe_un un_neg h) fun σ H Q ⟨G, m, q, S, t, k⟩ => ⟨G, m, _, S, t, fun v d G1 H1 m1 S1 g1 r1 q1 => by
  obtain ⟨z, hz, q1⟩ := q1
  cases r1 with
  | int i => cases hz; exact ⟨i, rfl, k _ _ G1 H1 m1 S1 g1 (.int _) q1⟩
  | _ => cases hz⟩
theorem je_neg {o : Option D} (h : JE X R ρ e o) : JE X R ρ (.UnaryOp .USub e pos) (o.bind dNeg) := (jm_neg h).imp fun _ _ => lift1
/-! ### enumerate of a list -/
def enumD : Nat → List D → List D
  | _, [] => []
  | n, d :: ds => .tuple [.int n, d] :: enumD (n + 1) ds
theorem enumD_len : ∀ (n : Nat) (ds : List D), (enumD n ds).length = ds.length
  | _, [] => rfl
  | n, d :: ds => by simp [enumD, enumD_len (n + 1) ds]
theorem enumD_at : ∀ {n i : Nat} {ds : List D} {d : D}, ds[i]? = some d → (enumD n ds)[i]? = some (.tuple [.int (n + i : Nat), d])
  | _, _, [], _, h => by simp at h
  | n, 0, d :: ds, _, h => by simp at h; subst h; rfl
  | n, i + 1, d :: ds, e, h => by
    have := enumD_at (n := n + 1) (i := i) (ds := ds) (d := e) (by simpa using h)
    show (enumD (n + 1) ds)[i]? = _
    rw [this]
    congr 4
    omega
def dEnum : D → Option (List D)
  | .list xs => some (enumD 0 xs)
  | _ => none
theorem walk_e {elts : List Expr} {kk : Nat} {tpos : Pos} {K : PySem.W.Frag} {G : Hp} {p : Addr} {vs : List V} {ds : List D} (hp : G p = some (.lst vs)) (r : RpL G vs ds) : IsWalk (.Tuple elts kk tpos) G (Ite K p) (enumD 0 ds) where
  go := fun i H s hi => by
    rw [enumD_len] at hi
    have h1 : i < vs.length := by rw [r.length]; omega
    exact ⟨vs, _, SqL.of (s _ _ hp), List.getElem?_eq_getElem h1⟩
  stop := fun H s => ⟨vs, SqL.of (s _ _ hp), by rw [enumD_len, r.length]; omega⟩
  yld := fun i H x H' s hi y => by
    obtain ⟨T, x, rfl, hT, rfl, f1⟩ := y
    obtain ⟨d, hd, rd⟩ := r.getV (f1 _ (SqL.of (s _ _ hp)))
    exact ⟨_, enumD_at hd, .inr ⟨⟨_, _, _, rfl⟩, T, _, _, rfl, hT, rfl, rfl, .cons (by rw [Nat.zero_add]; exact .int _) (.cons rd .nil)⟩⟩
theorem ji_enum {T : M D} {p tpos : Pos} {elts : List Expr} {kk : Nat} (hm : X.mg "enumerate" = none) (ha : JM X R ρ a T) (hg : Gl X "enumerate" := by rfl)
    (hs : starEach [a] X.env = [(false, eval a X.env)] := by rfl) : JI X R ρ (.Tuple elts kk tpos) (.Call (.Name "enumerate" p) [a] [] pos) (fun q => T fun d => lift (dEnum d) q) := by
  refine PI.imp (pi_enum hg hm (ja_cons ha ja_nil hs) hs) fun σ H Rr ⟨G, m, q, S, t, k⟩ => ⟨G, m, (fun ds m => match ds with | [d] => lift (dEnum d) q m | _ => False), S, t, fun vs ds G1 H1 m1 S1 g1 r1 l1 q1 => ?_⟩
  cases r1 with
  | nil => cases l1
  | @cons v vs d ds r1 r2 =>
    cases r2 with
    | cons _ _ => cases l1
    | nil =>
      obtain ⟨es, hd, q1⟩ := q1
      cases r1 with
      | lst h1 ra =>
        cases hd
        exact ⟨_, _, rfl, SqL.of (S1.gh _ _ h1), k _ _ G1 H1 m1 S1 g1 (walk_e h1 ra) q1⟩
      | _ => cases hd
theorem jie_enum {o : Option D} {p tpos : Pos} {elts : List Expr} {kk : Nat} (hm : X.mg "enumerate" = none) (ha : JE X R ρ a o) (hg : Gl X "enumerate" := by rfl)
    (hs : starEach [a] X.env = [(false, eval a X.env)] := by rfl) : JIE X R ρ (.Tuple elts kk tpos) (.Call (.Name "enumerate" p) [a] [] pos) (C1 dEnum o) := (ji_enum hm ha hg hs).imp fun _ _ => lift1
end
theorem wk_ex {S α : Type} {ρ : List Cell} {env : S → List Cell} {kk : S → Option α} (s : S) (w : Wk ρ (env s)) : ∃ s', Wk ρ (env s') ∧ kk s = kk s' := ⟨s, w, rfl⟩

/-! ### loops with a break -/
section
variable {α S : Type} {X : Cx} {R : Res} {rk : RK α} {ρ : List Cell} {st : Stmt} {rest body A B' : List Stmt} {κ : KtE α} {e c tg iter : Expr} {pos : Pos} {env : S → List Cell} {s0 : S} {k : S → Option α}
theorem brk_key (hr : ∀ s, JKE X R rk (env s) rest κ (k s)) (ρ' : List Cell) (o : Option α) (h : ∃ s', Wk ρ' (env s') ∧ o = k s') : JKE X R rk ρ' rest κ o := by
  obtain ⟨s', w, e⟩ := h
  subst e
  exact (hr s').weak w
def KtLB {S α : Type} (env : S → List Cell) (kk k : S → Option α) : KtE α := KtLE env kk fun ρ' o => ∃ s', Wk ρ' (env s') ∧ o = k s'
theorem jke_for1J {oi : Option (List D)} {i n : Nat} {bodyO : (S → Option α) → S → D → (S → Option α) → Option α} (B : Bx X n) (hi : JIE X R ρ tg iter oi) (hg : JG X R tg [i] (bd1 i)) (w0 : Wk ρ (env s0))
    (hb : ∀ (k' : S → Option α) (s : S) (d : D) (kk : S → Option α), JKE X R rk ((env s).set i (.dat d)) body (KtLB env kk k') (bodyO k' s d kk)) (hr : ∀ s, JKE X R rk (env s) rest κ (k s)) (hs : ∀ x, foldedSetIterable iter X.env x = pure x := by intro _; rfl) :
    JKE X R rk ρ (.For tg iter body [] pos :: rest) κ (joinO k fun k' => oi.bind fun ds => forO (bodyO k') ds s0 k') :=
  jke_for1 (env := env) (s0 := s0) B hi hg w0 (fun s d kk => (hb k s d kk).kmono (fun _ _ h => h) (fun ρ' o h => brk_key hr ρ' o h) fun _ _ h => h) hr hs
theorem jke_for2J {oi : Option (List D)} {i j n : Nat} {bodyO : (S → Option α) → S → D → D → (S → Option α) → Option α} (B : Bx X n) (hi : JIE X R ρ tg iter oi) (hg : JG X R tg [i, j] (bdT [i, j])) (w0 : Wk ρ (env s0))
    (hb : ∀ (k' : S → Option α) (s : S) (d e : D) (kk : S → Option α), JKE X R rk (((env s).set i (.dat d)).set j (.dat e)) body (KtLB env kk k') (bodyO k' s d e kk)) (hr : ∀ s, JKE X R rk (env s) rest κ (k s)) (hs : ∀ x, foldedSetIterable iter X.env x = pure x := by intro _; rfl) :
    JKE X R rk ρ (.For tg iter body [] pos :: rest) κ (joinO k fun k' => oi.bind fun ds => forO (fun s d kk => un2 d fun x y => bodyO k' s x y kk) ds s0 k') :=
  jke_for2 (env := env) (s0 := s0) B hi hg w0 (fun s d e kk => (hb k s d e kk).kmono (fun _ _ h => h) (fun ρ' o h => brk_key hr ρ' o h) fun _ _ h => h) hr hs
theorem jke_whileJ {cO : S → Option Bool} {bodyO : (S → Option α) → S → (S → Option α) → Option α} {n l : Nat} (B : Bx X l) (w0 : Wk ρ (env s0)) (hc : ∀ s, JTE X R (env s) c (cO s))
    (hb : ∀ (k' : S → Option α) (s : S) (kk : S → Option α), JKE X R rk (env s) body (KtLB env kk k') (bodyO k' s kk)) (hr : ∀ s, JKE X R rk (env s) rest κ (k s)) : JKE X R rk ρ (.While c body [] pos :: rest) κ (joinO k fun k' => whileO cO (bodyO k') n s0 k') :=
  jke_while (env := env) (s0 := s0) B w0 hc (fun s kk => (hb k s kk).kmono (fun _ _ h => h) (fun ρ' o h => brk_key hr ρ' o h) fun _ _ h => h) hr
end
end Dl

set_option Elab.async false
set_option linter.all false
set_option autoImplicit false
set_option maxRecDepth 100000
set_option maxHeartbeats 1000000
namespace Dl
open PySem L2

/-! ### the pen -/
abbrev penL (ca : Addr) (i v : Nat) : HO := .lst [.ref ca, .int i, .int v]
def rPen (pa ca : Addr) (cs : List Int) (ent : Hp) : Res where
  vol := fun a => a = pa
  S := fun G => G ca = some (.lst (cs.map V.int))
  Dy := fun H m => ∃ i v : Nat, H pa = some (penL ca i v) ∧ i ≤ m
  sm := fun e h => e _ _ h
  dm := fun e h => by obtain ⟨i, v, h, l⟩ := h; exact ⟨i, v, by rw [e _ rfl]; exact h, l⟩
  ent := ent
/-- two numbers as one -/
def enc (i v : Nat) : Nat := (i + v) * (i + v) + i
theorem enc_lt {s t a b : Nat} (h : s < t) (ha : a ≤ s) : s * s + a < t * t + b := by
  have h1 : (s + 1) * (s + 1) ≤ t * t := Nat.mul_le_mul h h
  have h2 : (s + 1) * (s + 1) = s * s + s + s + 1 := by simp [Nat.mul_add, Nat.add_mul]; omega
  omega
theorem enc_inj {i v j u : Nat} (h : enc i v = enc j u) : i = j ∧ v = u := by
  unfold enc at h
  rcases Nat.lt_trichotomy (i + v) (j + u) with z | z | z
  · have := enc_lt (a := i) (b := j) z (by omega)
    omega
  · rw [z] at h
    omega
  · have := enc_lt (a := j) (b := i) z (by omega)
    omega
/-- .. its state known: what _law_take itself works with -/
def rTake (pa ca : Addr) (cs : List Int) (ent : Hp) : Res where
  vol := fun a => a = pa
  S := fun G => G ca = some (.lst (cs.map V.int))
  Dy := fun H m => ∃ i v : Nat, m = enc i v ∧ H pa = some (penL ca i v)
  sm := fun e h => e _ _ h
  dm := fun e h => by obtain ⟨i, v, l, h⟩ := h; exact ⟨i, v, l, by rw [e _ rfl]; exact h⟩
  ent := ent
def penD (cs : List Int) (i v : Nat) : List D := [.list (cs.map PyData.int), .int i, .int v]
def penAt (cs : List Int) (j : Nat) : M D := fun q m => ∃ i v d, m = enc i v ∧ (penD cs i v)[j]? = some d ∧ q d m

section
variable {X : Cx} {ρ : List Cell} {e a b c : Expr} {es : List Expr} {pos p p2 : Pos} {x y : Str} {pa ca : Addr} {cs : List Int} {ent : Hp} {k n : Nat}
/-- pen[j], read -/
theorem jm_pix {j : Nat} {j2} (i : Nat) (hj : j < 3) (hρ : ρ[i]? = some (.raw (.ref pa)) := by rfl) (hN : X.N[i]? = some x := by rfl) (hv : Vis X.env.scope x := by first | exact Or.inl rfl | exact Or.inr (Or.inl rfl) | exact Or.inr (Or.inr rfl))
    (hd : (x == ("__debug__" : Str)) = false := by decide) (hcd : (x == ("__classdict__" : Str)) = false := by decide) : JM X (rTake pa ca cs ent) ρ (.Subscript (.Name x p) (.Constant (.int j) j2 p2) pos) (penAt cs j) := by
  refine PE.imp (pe_ix or_ix (pe_var (i := i) hN hv hd hcd) pe_int (fun _ _ => rfl)) fun σ H Q ⟨G, m, q, S, t, k⟩ => ?_
  obtain ⟨i', v', d, hm, hd', hq⟩ := t
  have e1 : σ[i]? = some (some (.ref pa)) := S.cell i _ hρ
  obtain ⟨i2, v2, hm2, hp⟩ := S.jd
  rw [hm] at hm2
  obtain ⟨rfl, rfl⟩ := enc_inj hm2
  refine ⟨_, e1, ?_⟩
  have key : ∃ v, [V.ref ca, V.int i', V.int v'][j]? = some v ∧ Rp G v d := by
    match j, hj, hd' with
    | 0, _, hd' => cases hd'; exact ⟨_, rfl, .lst S.js RpL.ofInts⟩
    | 1, _, hd' => cases hd'; exact ⟨_, rfl, .int _⟩
    | 2, _, hd' => cases hd'; exact ⟨_, rfl, .int _⟩
  obtain ⟨v, hv', r⟩ := key
  refine .inl ⟨pa, _, (j : Int), v, rfl, rfl, SqL.of hp, ?_, k v d G H m S (Grow.refl _ _ _) r hq⟩
  match j, hj, hv' with
  | 0, _, hv' => exact hv'
  | 1, _, hv' => exact hv'
  | 2, _, hv' => exact hv'
variable {α : Type} {rk : RK α} {rest : List Stmt} {κ : Kt} {q : α → Nat → Prop}
/-- what pen[1] = e, pen[2] = e make of the state -/
def penSet (j : Nat) (d : D) (k : Nat → Prop) (m : Nat) : Prop := ∃ i v n : Nat, m = enc i v ∧ d = .int n ∧ ((j = 1 ∧ k (enc n v)) ∨ (j = 2 ∧ k (enc i n)))
theorem jk_pset {j : Nat} {j2} {T : M D} {kk : Nat → Prop} (i : Nat) (he : JM X (rTake pa ca cs ent) ρ e T) (hr : JK X (rTake pa ca cs ent) rk ρ rest κ q kk) (hρ : ρ[i]? = some (.raw (.ref pa)) := by rfl) (hN : X.N[i]? = some x := by rfl)
    (hv : Vis X.env.scope x := by first | exact Or.inl rfl | exact Or.inr (Or.inl rfl) | exact Or.inr (Or.inr rfl)) (hd : (x == ("__debug__" : Str)) = false := by decide) (hcd : (x == ("__classdict__" : Str)) = false := by decide)
    (ha : ∀ v, assign (.Subscript (.Name x p) (.Constant (.int j) j2 p2) pos) X.env v = (do let ov ← holding [v] (eval (.Name x p) X.env); let iv ← holding [v, ov] (eval (.Constant (.int j) j2 p2) X.env); standAt pos; holding [v, ov, iv] (setItem ov iv v); release [v, ov, iv] []) := by intro _; rfl)
    {spos : Pos} (hs : swapsWithSole [.Subscript (.Name x p) (.Constant (.int j) j2 p2) pos] e spos.line X.env = pure false := by rfl) (hw : swappedStores [.Subscript (.Name x p) (.Constant (.int j) j2 p2) pos] e X.env = pure none := by rfl)
    (h1 : (assignEach [.Subscript (.Name x p) (.Constant (.int j) j2 p2) pos] X.env).map (·.2) = [assign (.Subscript (.Name x p) (.Constant (.int j) j2 p2) pos) X.env] := by rfl) :
    JK X (rTake pa ca cs ent) rk ρ (.Assign [.Subscript (.Name x p) (.Constant (.int j) j2 p2) pos] e spos :: rest) κ q (T fun d => penSet j d kk) := by
  refine PSs.imp (pss_cons (ps_asg he (pg_sub (pe_var (i := i) hN hv hd hcd) pe_int set_list ha) hs hw h1) hr) fun Dn σ H ⟨Gb, G, m, S, g, t, ls⟩ => ⟨G, m, _, S, t, fun v d G1 H1 m1 S1 g1 r1 q1 => ?_⟩
  obtain ⟨i', v', n, hm, rfl, q1⟩ := q1
  cases r1
  have e1 : σ[i]? = some (some (.ref pa)) := S1.cell i _ hρ
  obtain ⟨i2, v2, hm2, hp⟩ := S1.jd
  rw [hm] at hm2
  obtain ⟨rfl, rfl⟩ := enc_inj hm2
  have gp : G1 pa = none := S1.vg pa rfl
  have key : ∀ (i3 v3 : Nat), kk (enc i3 v3) → tK (rTake pa ca cs ent) rk ρ κ q kk Dn σ (upd H1 pa (penL ca i3 v3)) := fun i3 v3 hk => by
    have g2 : Grow (rTake pa ca cs ent).vol G1 H1 G1 (upd H1 pa (penL ca i3 v3)) := ⟨Same.refl _, fun a o nv h => by rw [upd_ne fun z : a = pa => nv z]; exact h, fun a ga _ => ga⟩
    have S2 : Sit (rTake pa ca cs ent) σ ρ G1 (upd H1 pa (penL ca i3 v3)) (enc i3 v3) := S1.grow g2 (fun a o h => by rw [upd_ne (ne_of_none h gp)]; exact S1.gh a o h) (fun a va => by
      have va : a = pa := va
      subst va
      rw [upd_same]; exact fun z => nomatch z) ⟨i3, v3, rfl, upd_same⟩
    exact ⟨Gb, G1, _, S2, (S.tr g g1).trans S1.vh g2, hk, ls.sm g1.gg⟩
  refine ⟨.ref pa, e1, ?_⟩
  rcases q1 with ⟨rfl, hk⟩ | ⟨rfl, hk⟩
  · exact ⟨pa, [.ref ca, .int i', .int v'], 1, 1, rfl, rfl, hp, rfl, key n v' hk⟩
  · exact ⟨pa, [.ref ca, .int i', .int v'], 2, 2, rfl, rfl, hp, rfl, key i' n hk⟩
end

/-! ### defs that draw -/
def spM {α : Type} (rk : RK α) (n : Nat) (F : List D → M α) : Sp := fun vs H Q _ => ∃ pa ca cs G m ws ds q, vs = .ref pa :: ws ∧ Sat (rPen pa ca cs H) G H m ∧ RpL G ws ds ∧ ds.length = n ∧ F ds q m ∧
  ∀ v a G' H' m', Sat (rPen pa ca cs H) G' H' m' → Grow (fun a => a = pa) G H G' H' → rk.rel H G' H' v a → q a m' → Q v H'
def drawM {α : Type} (Ts : M (List D)) (F : List D → M α) : M α := fun q => Ts fun ds => F ds q
section
variable {X : Cx} {ρ : List Cell} {e a b c : Expr} {es : List Expr} {pos p p2 : Pos} {x y : Str} {pa ca : Addr} {cs : List Int} {ent : Hp} {k n i : Nat}
theorem Sat.atEnt {pa ca : Addr} {cs : List Int} {ent : Hp} {G H : Hp} {m : Nat} (S : Sat (rPen pa ca cs ent) G H m) : Sat (rPen pa ca cs H) G H m := ⟨S.gh, S.vg, S.vh, S.js, S.jd, fun _ h => h⟩
theorem jm_pn {F : List D → M D} {Ts : M (List D)} (i : Nat) (h : Kn X.prog X.w X.K X.mg X.base x k (spM .dat n F)) (B : Bx X k) (ha : JA X (rPen pa ca cs ent) ρ es n Ts) (hρ : ρ[i]? = some (.raw (.ref pa)) := by rfl) (hN : X.N[i]? = some y := by rfl)
    (hv : Vis X.env.scope y := by first | exact Or.inl rfl | exact Or.inr (Or.inl rfl) | exact Or.inr (Or.inr rfl)) (hd : (y == ("__debug__" : Str)) = false := by decide) (hcd : (y == ("__classdict__" : Str)) = false := by decide) (hg : Gl X x := by rfl)
    (hdb : (x == ("__debug__" : Str)) = false := by decide) (he : starEach (.Name y p2 :: es) X.env = (false, eval (.Name y p2) X.env) :: starEach es X.env := by rfl) (hpl : (backTo pos (starEach es X.env)).any (·.1) = false := by rfl) :
    JM X (rPen pa ca cs ent) ρ (.Call (.Name x p) (.Name y p2 :: es) [] pos) (drawM Ts F) := by
  refine PE.imp (pe_kn h B (pa_cons (pe_var (i := i) hN hv hd hcd) ha he) hg hdb he hpl) fun σ H Q ⟨G, m, q, S, t, k⟩ => ⟨_, S.cell i _ hρ, G, m, _, S, t, fun vs ds G1 H1 m1 S1 g1 r1 l1 q1 => ?_⟩
  refine ⟨pa, ca, cs, G1, m1, vs, ds, q, rfl, Sat.atEnt S1.toSat, r1, l1, q1, fun v d G2 H2 m2 S2 g2 r2 q2 => ?_⟩
  exact k v d G2 H2 m2 (S1.grow (R := rPen pa ca cs ent) g2 S2.gh S2.vh S2.jd) (g1.trans S1.vh g2) r2 q2
theorem jl_pn {F : List D → M (List D)} {Ts : M (List D)} (i : Nat) (h : Kn X.prog X.w X.K X.mg X.base x k (spM .lst n F)) (B : Bx X k) (ha : JA X (rPen pa ca cs ent) ρ es n Ts) (hρ : ρ[i]? = some (.raw (.ref pa)) := by rfl) (hN : X.N[i]? = some y := by rfl)
    (hv : Vis X.env.scope y := by first | exact Or.inl rfl | exact Or.inr (Or.inl rfl) | exact Or.inr (Or.inr rfl)) (hd : (y == ("__debug__" : Str)) = false := by decide) (hcd : (y == ("__classdict__" : Str)) = false := by decide) (hg : Gl X x := by rfl)
    (hdb : (x == ("__debug__" : Str)) = false := by decide) (he : starEach (.Name y p2 :: es) X.env = (false, eval (.Name y p2) X.env) :: starEach es X.env := by rfl) (hpl : (backTo pos (starEach es X.env)).any (·.1) = false := by rfl) :
    JL X (rPen pa ca cs ent) ρ (.Call (.Name x p) (.Name y p2 :: es) [] pos) (drawM Ts F) := by
  refine PE.imp (pe_kn h B (pa_cons (pe_var (i := i) hN hv hd hcd) ha he) hg hdb he hpl) fun σ H Q ⟨G, m, q, S, t, k⟩ => ⟨_, S.cell i _ hρ, G, m, _, S, t, fun vs ds G1 H1 m1 S1 g1 r1 l1 q1 => ?_⟩
  refine ⟨pa, ca, cs, G1, m1, vs, ds, q, rfl, Sat.atEnt S1.toSat, r1, l1, q1, fun v d G2 H2 m2 S2 g2 r2 q2 => ?_⟩
  obtain ⟨l, ws, rfl, hl, gl, hl2, r⟩ := r2
  exact k l ws d G2 H2 m2 (S1.grow (R := rPen pa ca cs ent) g2 S2.gh S2.vh S2.jd) (g1.trans S1.vh g2) (free_of g1 S1.vh hl) gl hl2 r q2
end
/-! ### the body of such a def -/
def startP (N : List Str) (pa : Addr) (ds : List D) : List Cell := .raw (.ref pa) :: (ds.map Cell.dat ++ List.replicate (N.length - (ds.length + 1)) Cell.no)
theorem sit_startP {N : List Str} {R : Res} {pa : Addr} {vs : List V} {ds : List D} {G H : Hp} {m : Nat} (S : Sat R G H m) (r : RpL G vs ds) : Sit R (L2.start N (.ref pa :: vs)) (startP N pa ds) G H m := by
  have hl := r.length
  refine ⟨S, by simp [L2.start, startP, hl], fun i c e => ?_, fun i j es fs l e1 _ _ _ => ?_⟩
  · cases i with
    | zero => cases e; rfl
    | succ i =>
      have e : (ds.map Cell.dat ++ List.replicate (N.length - (ds.length + 1)) Cell.no)[i]? = some c := e
      by_cases hi : i < ds.length
      · rw [List.getElem?_append_left (by simpa using hi), List.getElem?_map, List.getElem?_eq_getElem hi] at e
        cases e
        obtain ⟨v, hv, rv⟩ := r.get (List.getElem?_eq_getElem hi)
        refine ⟨v, ?_, rv⟩
        unfold L2.start
        rw [List.getElem?_append_left (by simp; omega), List.getElem?_map]
        show (((V.ref pa :: vs)[i + 1]?).map some) = _
        rw [List.getElem?_cons_succ, hv]
        rfl
      · rw [List.getElem?_append_right (by simpa using hi), List.getElem?_replicate] at e
        split at e
        · cases e; trivial
        · cases e
  · cases i with
    | zero => cases e1
    | succ i =>
      have e1 : (ds.map Cell.dat ++ List.replicate (N.length - (ds.length + 1)) Cell.no)[i]? = some (.own es) := e1
      by_cases hi : i < ds.length
      · rw [List.getElem?_append_left (by simpa using hi), List.getElem?_map, List.getElem?_eq_getElem hi] at e1
        cases e1
      · rw [List.getElem?_append_right (by simpa using hi), List.getElem?_replicate] at e1
        split at e1 <;> cases e1
section
variable {α : Type} {P : Program} {w : World} {K : PySem.W.Frag} {mg : Str → Option Value} {base : Heap}
theorem kn_pen {rk : RK α} [Falls rk] {F : List D → M α} {x : Str} {st : Stmt} {f : Addr} {fd : FuncData} {N ps : List Str} {k n : Nat} (Fn : Fun K x x st f fd) (mx : mg x = some (.ref f)) (bs : Binds K fd ps []) (Sc : FnScope N ps (defScope st)) (hn : ps.length = n + 1)
    (body : ∀ (cdv : Value) (A : Around) (outer : List Env) (s : Shared) (H : Hp) (E : XK), Bx (cxG P w K mg base N x st f cdv A outer s H E) k → ∀ (pa ca : Addr) (cs : List Int) (ds : List D), ds.length = n → ∀ q : α → Nat → Prop,
      JK (cxG P w K mg base N x st f cdv A outer s H E) (rPen pa ca cs H) rk (startP N pa ds) (defBody st) (KtF rk q) q (F ds q)) : Kn P w K mg base x (k + 1) (spM rk n F) := by
  refine ⟨f, fd, ps, fn_g Fn Sc (fun vs H Q E h => ?_) (fun cdv A outer s H vs Q E hg hr h => ?_), mx, Fn.kp, bs⟩
  · obtain ⟨pa, ca, cs, G, m, ws, ds, q, rfl, S, r, l, _⟩ := h
    simp [r.length, l, hn]
  · obtain ⟨pa, ca, cs, G, m, ws, ds, q, rfl, S, r, l, hF, k⟩ := h
    have B : Bx (cxG P w K mg base N x st f cdv A outer s H E) _ := ⟨hr, hg, rfl, Sc.nd, PassesOwn.never⟩
    have rt : Rt (rPen pa ca cs H) rk G q Q := fun v a G' H' m' S' g' rr hq => k v a G' H' m' S' g' rr hq
    refine ⟨_, (body cdv A outer s H E B pa ca cs ds l q).nox, G, G, m, sit_startP S r, Grow.refl _ _ _, hF, rt, ?_, ?_, ?_⟩
    · intro ρ' b σ' G' H' m' h hb S' g' _
      exact Falls.ok (R := rPen pa ca cs H) (Gb := G) rt h hb S' g'
    · intro _ _ _ _ _ _ h; exact h.elim
    · intro _ _ _ _ _ _ h; exact h.elim
/-- _law_take: its own body, the pen's state known; then the promise to all others -/
theorem kn_take {F : List D → M D} {F0 : List Int → D → M D} {x : Str} {st : Stmt} {f : Addr} {fd : FuncData} {N ps : List Str} {k : Nat} (Fn : Fun K x x st f fd) (mx : mg x = some (.ref f)) (bs : Binds K fd ps []) (Sc : FnScope N ps (defScope st)) (hn : ps.length = 2)
    (law : ∀ (cs : List Int) (d : D) (q : D → Nat → Prop) (m i v : Nat), F [d] q m → i ≤ m → F0 cs d (fun a n => ∃ i' v' m', n = enc i' v' ∧ i' ≤ m' ∧ q a m') (enc i v))
    (body : ∀ (cdv : Value) (A : Around) (outer : List Env) (s : Shared) (H : Hp) (E : XK), Bx (cxG P w K mg base N x st f cdv A outer s H E) k → ∀ (pa ca : Addr) (cs : List Int) (d : D), ∀ q : D → Nat → Prop,
      JK (cxG P w K mg base N x st f cdv A outer s H E) (rTake pa ca cs H) .dat (startP N pa [d]) (defBody st) (KtF .dat q) q (F0 cs d q)) : Kn P w K mg base x (k + 1) (spM .dat 1 F) := by
  refine ⟨f, fd, ps, fn_g Fn Sc (fun vs H Q E h => ?_) (fun cdv A outer s H vs Q E hg hr h => ?_), mx, Fn.kp, bs⟩
  · obtain ⟨pa, ca, cs, G, m, ws, ds, q, rfl, S, r, l, _⟩ := h
    simp [r.length, l, hn]
  · obtain ⟨pa, ca, cs, G, m, ws, ds, q, rfl, S, r, l, hF, k⟩ := h
    have B : Bx (cxG P w K mg base N x st f cdv A outer s H E) _ := ⟨hr, hg, rfl, Sc.nd, PassesOwn.never⟩
    match ds, l with
    | [d], _ =>
      obtain ⟨i, v, hp, hi⟩ := S.jd
      have S0 : Sat (rTake pa ca cs H) G H (enc i v) := ⟨S.gh, S.vg, S.vh, S.js, ⟨i, v, rfl, hp⟩, S.en⟩
      have rt : Rt (rTake pa ca cs H) .dat G (fun a n => ∃ i' v' m', n = enc i' v' ∧ i' ≤ m' ∧ q a m') Q := fun v a G' H' m' S' g' rr hq => by
        obtain ⟨i', v', m2, rfl, hi', hq⟩ := hq
        obtain ⟨i3, v3, h3, hp3⟩ := S'.jd
        obtain ⟨rfl, rfl⟩ := enc_inj h3
        exact k v a G' H' m2 ⟨S'.gh, S'.vg, S'.vh, S'.js, ⟨i', v', hp3, hi'⟩, S'.en⟩ g' rr hq
      refine ⟨_, (body cdv A outer s H E B pa ca cs d _).nox, G, G, enc i v, sit_startP S0 r, Grow.refl _ _ _, law cs d q m i v hF hi, rt, ?_, ?_, ?_⟩
      · intro ρ' b σ' G' H' m' h hb S' g' _
        exact Falls.ok (R := rTake pa ca cs H) (Gb := G) rt h hb S' g'
      · intro _ _ _ _ _ _ h; exact h.elim
      · intro _ _ _ _ _ _ h; exact h.elim
end
end Dl

set_option Elab.async false
set_option linter.all false
set_option autoImplicit false
set_option maxRecDepth 100000
set_option maxHeartbeats 1000000
namespace Dl
open PySem L2

/-! ### drawing code: the words of its meanings -/
def nilM : M (List D) := fun q m => q [] m
def consM (T : M D) (Ts : M (List D)) : M (List D) := fun q m => T (fun d m1 => Ts (fun ds m2 => q (d :: ds) m2) m1) m
def tupM (Ts : M (List D)) : M D := fun q => Ts fun ds => q (.tuple ds)
def lstM (Ts : M (List D)) : M D := fun q => Ts fun ds => q (.list ds)
def appM {β : Type} (Ts : M (List D)) (F : List D → Option β) : M β := fun q => Ts fun ds => lift (F ds) q
def bindM {β : Type} (T : M D) (f : D → Option β) : M β := fun q => T fun d m => lift (f d) q m
def notM (T : M Bool) : M Bool := fun q => T fun b => q (!b)
def andM (Ta Tb : M Bool) : M Bool := fun q m => Ta (fun c m1 => if c = true then Tb q m1 else q false m1) m
def orM (Ta Tb : M Bool) : M Bool := fun q m => Ta (fun c m1 => if c = true then q true m1 else Tb q m1) m
def ifM {β : Type} (Tc : M Bool) (Ta Tb : M β) : M β := fun q m => Tc (fun t m1 => if t = true then Ta q m1 else Tb q m1) m
def ifK (Tc : M Bool) (A B : Nat → Prop) : Nat → Prop := Tc fun t m => if t = true then A m else B m
def appK (ds : List D) (T : M D) (k : List D → Nat → Prop) : Nat → Prop := T fun d m => ds.length < sizeLine ∧ k (ds ++ [d]) m
def augIK (d : D) (T : M D) (k : D → Nat → Prop) : Nat → Prop := T fun y m => ∃ a b, d = .int a ∧ y = .int b ∧ k (.int (a + b)) m
def augLK (ds : List D) (T : M (List D)) (k : List D → Nat → Prop) : Nat → Prop := T fun es m => ds.length + es.length ≤ sizeLine ∧ k (ds ++ es) m
def setIK (ds : List D) (T Ti : M D) (k : List D → Nat → Prop) : Nat → Prop := T fun d => Ti fun z m => ∃ n j, z = .int n ∧ ixN ds.length n = some j ∧ k (ds.set j d) m
def lendM (T : M D) : M D := fun q => T fun d m => imm d = true ∧ q d m
def lendLM (T : M (List D)) : M (List D) := fun q => T fun d m => immL d = true ∧ q d m
def consDM (T : M D) (Ts : M (List Cell)) : M (List Cell) := fun q m => T (fun d m1 => Ts (fun cs m2 => q (.dat d :: cs) m2) m1) m
def consLM (T : M (List D)) (Ts : M (List Cell)) : M (List Cell) := fun q m => T (fun d m1 => Ts (fun cs m2 => q (.own d :: cs) m2) m1) m
def nilCM : M (List Cell) := fun q m => q [] m
def onDM (k : D → Nat → Prop) : Cell → Nat → Prop
  | .dat d => k d
  | _ => fun _ => False
def onLM (k : List D → Nat → Prop) : Cell → Nat → Prop
  | .own d => k d
  | _ => fun _ => False
def cel2M (k : Cell → Cell → Nat → Prop) : List Cell → Nat → Prop
  | [c, d] => k c d
  | _ => fun _ => False
def cel3M (k : Cell → Cell → Cell → Nat → Prop) : List Cell → Nat → Prop
  | [c, d, e] => k c d e
  | _ => fun _ => False
def un2T {β : Type} (d : D) (f : D → D → M β) : M β := fun q m => match d with
  | .tuple [a, b] => f a b q m
  | _ => False
section
variable {X : Cx} {R : Res} {ρ : List Cell} {e a b c : Expr} {es rest' : List Expr} {pos : Pos} {n : Nat}
theorem jam_nil : JA X R ρ [] 0 nilM := ja_nil
theorem jam_cons {T : M D} {Ts : M (List D)} (ha : JM X R ρ e T) (hs : JA X R ρ es n Ts) (hst : starEach (e :: es) X.env = (false, eval e X.env) :: starEach es X.env := by rfl) : JA X R ρ (e :: es) (n + 1) (consM T Ts) := ja_cons ha hs hst
theorem jm_tupM {Ts : M (List D)} {x1} (h : JA X R ρ es n Ts) (hn : n ≤ 1000 := by decide) : JM X R ρ (.Tuple es x1 pos) (tupM Ts) := jm_tup h hn
theorem jl_lstM {Ts : M (List D)} (h : JA X R ρ es n Ts) (hn : n ≤ 1000 := by decide) : JL X R ρ (.List es pos) Ts := jl_lst h hn
theorem JL.jmM {T : M (List D)} (h : JL X R ρ e T) : JM X R ρ e (lstM T) := h.jm
theorem jm_opM {op : Operator} {r : R2} {f : D → D → Option D} {Ta Tb : M D} (hr : OpR X (binaryOp op) r) (ho : OpD r f) (ha : JM X R ρ a Ta) (hb : JM X R ρ b Tb) : JM X R ρ (.BinOp a op b pos) (op2 f Ta Tb) := jm_op hr ho ha hb
theorem jm_cmpM {op : CmpOp} {r : R2} {f : D → D → Option D} {Ta Tb : M D} (hr : OpR X (compareOp op) r) (ho : OpD r f) (ha : JM X R ρ a Ta) (hb : JM X R ρ b Tb) (hm : behindInMarks op b = false) : JM X R ρ (.Compare a [op] [b] pos) (op2 f Ta Tb) := jm_cmp hr ho ha hb hm
theorem jt_cmpM {op : CmpOp} {r : R2} {f : D → D → Option D} {Ta Tb : M D} (hr : OpR X (compareOp op) r) (ho : OpD r f) (ha : JM X R ρ a Ta) (hb : JM X R ρ b Tb) (hm : behindInMarks op b = false) : JT X R ρ (.Compare a [op] [b] pos) (bindM (op2 f Ta Tb) asB) := jt_cmp hr ho ha hb hm
theorem jt_truM {T : M D} (h : JM X R ρ e T) (he : ∀ whole, isTrue e X.env whole = (do let v ← whole; standAt e.pos; holding [v] (truthy v)) := by intro _; rfl) : JT X R ρ e (bindM T asT) := jt_tru h he
theorem jm_ixM {Ta Tb : M D} (ha : JM X R ρ a Ta) (hb : JM X R ρ b Tb) (hs : PlainIx b := by exact fun _ _ => rfl) : JM X R ρ (.Subscript a b pos) (op2 dIx Ta Tb) := jm_ix or_ix od_ix ha hb hs
theorem jt_notM {T : M Bool} (ha : JT X R ρ a T) : JT X R ρ (.UnaryOp .Not a pos) (notM T) := jt_not ha
theorem jw_and1M {T : M Bool} (ha : JT X R ρ a T) : JW X R ρ (.BoolOp .And [a] pos) T := pw_and1 ha
theorem jw_or1M {T : M Bool} (ha : JT X R ρ a T) : JW X R ρ (.BoolOp .Or [a] pos) T := pw_or1 ha
theorem jw_andM {Ta Tb : M Bool} (ha : JT X R ρ a Ta) (hb : JW X R ρ (.BoolOp .And (b :: rest') pos) Tb) : JW X R ρ (.BoolOp .And (a :: b :: rest') pos) (andM Ta Tb) := jw_and ha hb
theorem jw_orM {Ta Tb : M Bool} (ha : JT X R ρ a Ta) (hb : JW X R ρ (.BoolOp .Or (b :: rest') pos) Tb) : JW X R ρ (.BoolOp .Or (a :: b :: rest') pos) (orM Ta Tb) := jw_or ha hb
theorem jm_ifM {Tc : M Bool} {Ta Tb : M D} (hc : JT X R ρ c Tc) (ha : JM X R ρ a Ta) (hb : JM X R ρ b Tb) : JM X R ρ (.IfExp c a b pos) (ifM Tc Ta Tb) := jm_if hc ha hb
theorem jl_ifM {Tc : M Bool} {Ta Tb : M (List D)} (hc : JT X R ρ c Tc) (ha : JL X R ρ a Ta) (hb : JL X R ρ b Tb) : JL X R ρ (.IfExp c a b pos) (ifM Tc Ta Tb) := jl_if hc ha hb
theorem jm_negM {T : M D} (h : JM X R ρ e T) : JM X R ρ (.UnaryOp .USub e pos) (bindM T dNeg) := jm_neg h
theorem JM.lendM' {T : M D} (h : JM X R (brw ρ) e T) : JM X R ρ e (lendM T) := JM.lend h
theorem JL.lendM' {T : M (List D)} (h : JL X R (brw ρ) e T) : JL X R ρ e (lendLM T) := JL.lend h
variable {x : Str} {id T : String} {p : Pos} {r : List V → Hp → VK → Prop} {k : Nat}
theorem jm_callBM {F : List D → Option D} {Ts : M (List D)} (hr : CallR X (.builtin id) r) (hF : CallD r F) (hm : X.mg x = none) (hv : bootBuiltins x = some (.builtin id)) (ha : JA X R ρ (e :: es) n Ts) (hg : Gl X x := by rfl) (hn : x ≠ "__name__" := by decide) (hdb : (x == ("__debug__" : Str)) = false := by decide)
    (he : starEach (e :: es) X.env = (false, eval e X.env) :: starEach es X.env := by rfl) (hpl : (backTo pos (starEach es X.env)).any (·.1) = false := by rfl) : JM X R ρ (.Call (.Name x p) (e :: es) [] pos) (appM Ts F) := jm_callB hr hF hm hv ha hg hn hdb he hpl
theorem jm_callTyM {F : List D → Option D} {Ts : M (List D)} (hr : CallR X (.type T) r) (hF : CallD r F) (hm : X.mg x = none) (hv : bootBuiltins x = some (.type T)) (ha : JA X R ρ (e :: es) n Ts) (hg : Gl X x := by rfl) (hn : x ≠ "__name__" := by decide) (hdb : (x == ("__debug__" : Str)) = false := by decide)
    (he : starEach (e :: es) X.env = (false, eval e X.env) :: starEach es X.env := by rfl) (hpl : (backTo pos (starEach es X.env)).any (·.1) = false := by rfl) : JM X R ρ (.Call (.Name x p) (e :: es) [] pos) (appM Ts F) := jm_callTy hr hF hm hv ha hg hn hdb he hpl
theorem jl_callBM {F : List D → Option (List D)} {Ts : M (List D)} (hr : CallR X (.builtin id) r) (hF : CallDL r F) (hm : X.mg x = none) (hv : bootBuiltins x = some (.builtin id)) (ha : JA X R ρ (e :: es) n Ts) (hg : Gl X x := by rfl) (hn : x ≠ "__name__" := by decide) (hdb : (x == ("__debug__" : Str)) = false := by decide)
    (he : starEach (e :: es) X.env = (false, eval e X.env) :: starEach es X.env := by rfl) (hpl : (backTo pos (starEach es X.env)).any (·.1) = false := by rfl) : JL X R ρ (.Call (.Name x p) (e :: es) [] pos) (appM Ts F) := jl_callB hr hF hm hv ha hg hn hdb he hpl
theorem jl_callTyM {F : List D → Option (List D)} {Ts : M (List D)} (hr : CallR X (.type T) r) (hF : CallDL r F) (hm : X.mg x = none) (hv : bootBuiltins x = some (.type T)) (ha : JA X R ρ (e :: es) n Ts) (hg : Gl X x := by rfl) (hn : x ≠ "__name__" := by decide) (hdb : (x == ("__debug__" : Str)) = false := by decide)
    (he : starEach (e :: es) X.env = (false, eval e X.env) :: starEach es X.env := by rfl) (hpl : (backTo pos (starEach es X.env)).any (·.1) = false := by rfl) : JL X R ρ (.Call (.Name x p) (e :: es) [] pos) (appM Ts F) := jl_callTy hr hF hm hv ha hg hn hdb he hpl
theorem jm_knM {F : List D → Option D} {Ts : M (List D)} (h : Kn X.prog X.w X.K X.mg X.base x k (spR .dat n F)) (B : Bx X k) (ha : JA X R ρ (e :: es) n Ts) (hg : Gl X x := by rfl) (hdb : (x == ("__debug__" : Str)) = false := by decide)
    (he : starEach (e :: es) X.env = (false, eval e X.env) :: starEach es X.env := by rfl) (hpl : (backTo pos (starEach es X.env)).any (·.1) = false := by rfl) : JM X R ρ (.Call (.Name x p) (e :: es) [] pos) (appM Ts F) := jm_kn h B ha hg hdb he hpl
theorem jl_knM {F : List D → Option (List D)} {Ts : M (List D)} (h : Kn X.prog X.w X.K X.mg X.base x k (spR .lst n F)) (B : Bx X k) (ha : JA X R ρ (e :: es) n Ts) (hg : Gl X x := by rfl) (hdb : (x == ("__debug__" : Str)) = false := by decide)
    (he : starEach (e :: es) X.env = (false, eval e X.env) :: starEach es X.env := by rfl) (hpl : (backTo pos (starEach es X.env)).any (·.1) = false := by rfl) : JL X R ρ (.Call (.Name x p) (e :: es) [] pos) (appM Ts F) := jl_kn h B ha hg hdb he hpl
/-! iterators -/
variable {tg : Expr}
theorem ji_seqM {T : M D} (h : JM X R ρ e T) : JI X R ρ tg e (bindM T dItems) := ji_seq h
theorem ji_newM {T : M (List D)} (h : JL X R ρ e T) : JI X R ρ tg e T := ji_new h
theorem ji_range1M {Ta : M D} (hm : X.mg "range" = none) (ha : JM X R ρ a Ta) (hg : Gl X "range" := by rfl) (hs : starEach [a] X.env = [(false, eval a X.env)] := by rfl) : JI X R ρ tg (.Call (.Name "range" p) [a] [] pos) (appM (consM Ta nilM) dRange) := ji_range1 hm (ja_cons ha ja_nil hs) hg hs
theorem ji_range2M {Ta Tb : M D} (hm : X.mg "range" = none) (ha : JM X R ρ a Ta) (hb : JM X R ρ b Tb) (hg : Gl X "range" := by rfl) (hs : starEach [a, b] X.env = [(false, eval a X.env), (false, eval b X.env)] := by rfl) (hs2 : starEach [b] X.env = [(false, eval b X.env)] := by rfl) :
    JI X R ρ tg (.Call (.Name "range" p) [a, b] [] pos) (appM (consM Ta (consM Tb nilM)) dRange) := ji_range2 hm (ja_cons ha (ja_cons hb ja_nil hs2) (by rw [hs, hs2])) hg hs hs2
/-! comprehensions -/
variable {iter elt : Expr} {ifs : List Expr} {scope : Scope} {own : List (Str × Nat)}
theorem okT_nilM : OkT X R scope ρ [] (lift (some true)) := okTE_nil
theorem jl_lc1M {Ti : M (List D)} {i : Nat} {Tt : D → M Bool} {Te : D → M D} (B : Bx X k) (hi : JI X R ρ tg iter Ti) (ok : BlkOk X.N X.env.scope scope own)
    (hg : ∀ (s : Shared) (H : Hp) (C : Addr) (cl : List (Str × Addr)) (fp : List Addr), JG (X.blk s H scope (compEnvC scope cl C X.env) fp) R tg [i] (bd1 i))
    (ht : ∀ d, OkT X R scope ((wipeC ρ (own.map (·.2))).set i (.dat d)) ifs (Tt d)) (he : ∀ d, OkE X R scope ((wipeC ρ (own.map (·.2))).set i (.dat d)) elt (Te d))
    (hsl : ∀ j ∈ [i], j ∈ own.map (·.2) := by decide) (hs : ∀ x, foldedSetIterable iter X.env x = pure x := by intro _; rfl) : JL X R ρ (.ListComp elt [⟨tg, iter, ifs, 0⟩] scope pos) (lcM Ti fun d => turnM (Tt d) (Te d)) :=
  jl_lc B hi ok hsl hg (f := fun d => turnM (Tt d) (Te d)) (fun d q m h => ⟨_, _, _, rfl, ht d, he d, h⟩) hs
theorem st_lc1M {Ti : M (List D)} {i j : Nat} {y : Str} {py spos : Pos} {Tt : D → M Bool} {Te : D → M D} (B : Bx X k) (hi : JI X R ρ tg iter Ti) (ok : BlkOk X.N X.env.scope scope own)
    (hg : ∀ (s : Shared) (H : Hp) (C : Addr) (cl : List (Str × Addr)) (fp : List Addr), JG (X.blk s H scope (compEnvC scope cl C X.env) fp) R tg [i] (bd1 i))
    (ht : ∀ d, OkT X R scope ((wipeC ρ (own.map (·.2))).set i (.dat d)) ifs (Tt d)) (he : ∀ d, OkE X R scope ((wipeC ρ (own.map (·.2))).set i (.dat d)) elt (Te d))
    (hy : X.N[j]? = some y := by rfl) (hyl : X.env.scope.names.lookup y = some .local := by rfl) (hsw : swapsWith (.ListComp elt [⟨tg, iter, ifs, 0⟩] scope pos) (some (.Name y py)) spos.line X.env = pure true := by rfl)
    (hsl : ∀ j ∈ [i], j ∈ own.map (·.2) := by decide) (hs : ∀ x, foldedSetIterable iter X.env x = pure x := by intro _; rfl) : PS X (.Assign [.Name y py] (.ListComp elt [⟨tg, iter, ifs, 0⟩] scope pos) spos) (tAsg (tL R ρ (lcM Ti fun d => turnM (Tt d) (Te d))) (gName j)) :=
  js_lc B hy hyl hsw hi ok hsl hg (f := fun d => turnM (Tt d) (Te d)) (fun d q m h => ⟨_, _, _, rfl, ht d, he d, h⟩) hs
theorem jl_lc2M {Ti : M (List D)} {i1 i2 : Nat} {Tt : D → D → M Bool} {Te : D → D → M D} (B : Bx X k) (hi : JI X R ρ tg iter Ti) (ok : BlkOk X.N X.env.scope scope own)
    (hg : ∀ (s : Shared) (H : Hp) (C : Addr) (cl : List (Str × Addr)) (fp : List Addr), JG (X.blk s H scope (compEnvC scope cl C X.env) fp) R tg [i1, i2] (bdT [i1, i2]))
    (ht : ∀ a b, OkT X R scope (((wipeC ρ (own.map (·.2))).set i1 (.dat a)).set i2 (.dat b)) ifs (Tt a b)) (he : ∀ a b, OkE X R scope (((wipeC ρ (own.map (·.2))).set i1 (.dat a)).set i2 (.dat b)) elt (Te a b))
    (hsl : ∀ j ∈ [i1, i2], j ∈ own.map (·.2) := by decide) (hs : ∀ x, foldedSetIterable iter X.env x = pure x := by intro _; rfl) : JL X R ρ (.ListComp elt [⟨tg, iter, ifs, 0⟩] scope pos) (lcM Ti fun d => un2T d fun a b => turnM (Tt a b) (Te a b)) :=
  jl_lc B hi ok hsl hg (f := fun d => un2T d fun a b => turnM (Tt a b) (Te a b)) (fun d q m h => by
    match d, h with
    | .tuple [a, b], h => exact ⟨_, _, _, rfl, ht a b, he a b, h⟩) hs
theorem st_lc2M {Ti : M (List D)} {i1 i2 j : Nat} {y : Str} {py spos : Pos} {Tt : D → D → M Bool} {Te : D → D → M D} (B : Bx X k) (hi : JI X R ρ tg iter Ti) (ok : BlkOk X.N X.env.scope scope own)
    (hg : ∀ (s : Shared) (H : Hp) (C : Addr) (cl : List (Str × Addr)) (fp : List Addr), JG (X.blk s H scope (compEnvC scope cl C X.env) fp) R tg [i1, i2] (bdT [i1, i2]))
    (ht : ∀ a b, OkT X R scope (((wipeC ρ (own.map (·.2))).set i1 (.dat a)).set i2 (.dat b)) ifs (Tt a b)) (he : ∀ a b, OkE X R scope (((wipeC ρ (own.map (·.2))).set i1 (.dat a)).set i2 (.dat b)) elt (Te a b))
    (hy : X.N[j]? = some y := by rfl) (hyl : X.env.scope.names.lookup y = some .local := by rfl) (hsw : swapsWith (.ListComp elt [⟨tg, iter, ifs, 0⟩] scope pos) (some (.Name y py)) spos.line X.env = pure true := by rfl)
    (hsl : ∀ j ∈ [i1, i2], j ∈ own.map (·.2) := by decide) (hs : ∀ x, foldedSetIterable iter X.env x = pure x := by intro _; rfl) : PS X (.Assign [.Name y py] (.ListComp elt [⟨tg, iter, ifs, 0⟩] scope pos) spos) (tAsg (tL R ρ (lcM Ti fun d => un2T d fun a b => turnM (Tt a b) (Te a b))) (gName j)) :=
  js_lc B hy hyl hsw hi ok hsl hg (f := fun d => un2T d fun a b => turnM (Tt a b) (Te a b)) (fun d q m h => by
    match d, h with
    | .tuple [a, b], h => exact ⟨_, _, _, rfl, ht a b, he a b, h⟩) hs
end
/-! ### statements of drawing code -/
section
variable {α S : Type} {X : Cx} {R : Res} {rk : RK α} {ρ : List Cell} {st : Stmt} {rest body A B' : List Stmt} {κ : Kt} {q : α → Nat → Prop} {e c tg iter : Expr} {pos : Pos} {env : S → List Cell} {s0 : S} {k : S → Nat → Prop}
theorem jk_ifM {Tc : M Bool} {aA aB : Nat → Prop} (hc : JT X R ρ c Tc) (hA : JK X R rk ρ A ⟨fun ρ' b => JK X R rk ρ' rest κ q b, κ.bk, κ.ct⟩ q aA) (hB : JK X R rk ρ B' ⟨fun ρ' b => JK X R rk ρ' rest κ q b, κ.bk, κ.ct⟩ q aB) :
    JK X R rk ρ (.If c A B' pos :: rest) κ q (ifK Tc aA aB) := jk_if hc hA hB
theorem jk_ifJM {S : Type} {env : S → List Cell} {k : S → Nat → Prop} {Tc : M Bool} {aA aB : (S → Nat → Prop) → Nat → Prop} (hc : JT X R ρ c Tc) (hA : ∀ kk, JK X R rk ρ A (KtJ env kk κ) q (aA kk)) (hB : ∀ kk, JK X R rk ρ B' (KtJ env kk κ) q (aB kk)) (hr : ∀ s, JK X R rk (env s) rest κ q (k s)) :
    JK X R rk ρ (.If c A B' pos :: rest) κ q (joinK k fun kk => ifK Tc (aA kk) (aB kk)) := jk_ifJ hc hA hB hr
theorem wk_exM {kk : S → Nat → Prop} (s : S) (w : Wk ρ (env s)) : ∃ s', Wk ρ (env s') ∧ ∀ m, kk s m → kk s' m := ⟨s, w, fun _ h => h⟩
theorem jk_for1 {Ti : M (List D)} {i n : Nat} {bodyM : S → D → (S → Nat → Prop) → Nat → Prop} (B : Bx X n) (hi : JI X R ρ tg iter Ti) (hg : JG X R tg [i] (bd1 i)) (w0 : Wk ρ (env s0))
    (hb : ∀ (s : S) (d : D) (kk : S → Nat → Prop), JK X R rk ((env s).set i (.dat d)) body (KtL env kk fun ρ' b => JK X R rk ρ' rest κ q b) q (bodyM s d kk)) (hr : ∀ s, JK X R rk (env s) rest κ q (k s)) (hs : ∀ x, foldedSetIterable iter X.env x = pure x := by intro _; rfl) :
    JK X R rk ρ (.For tg iter body [] pos :: rest) κ q (Ti fun ds => forK bodyM ds s0 k) := jk_for B hi hg w0 (fun s d kk m _ => ⟨_, rfl, hb s d kk⟩) hr hs
theorem jk_for2 {Ti : M (List D)} {i j n : Nat} {bodyM : S → D → D → (S → Nat → Prop) → Nat → Prop} (B : Bx X n) (hi : JI X R ρ tg iter Ti) (hg : JG X R tg [i, j] (bdT [i, j])) (w0 : Wk ρ (env s0))
    (hb : ∀ (s : S) (d e : D) (kk : S → Nat → Prop), JK X R rk (((env s).set i (.dat d)).set j (.dat e)) body (KtL env kk fun ρ' b => JK X R rk ρ' rest κ q b) q (bodyM s d e kk)) (hr : ∀ s, JK X R rk (env s) rest κ q (k s)) (hs : ∀ x, foldedSetIterable iter X.env x = pure x := by intro _; rfl) :
    JK X R rk ρ (.For tg iter body [] pos :: rest) κ q (Ti fun ds => forK (fun s d kk => un2M d fun x y => bodyM s x y kk) ds s0 k) :=
  jk_for B hi hg w0 (fun s d kk m h => by
    match d, h with
    | .tuple [x, y], h => exact ⟨_, rfl, hb s x y kk⟩) hr hs
theorem brk_keyM (hr : ∀ s, JK X R rk (env s) rest κ q (k s)) (ρ' : List Cell) (b : Nat → Prop) (h : ∃ s', Wk ρ' (env s') ∧ ∀ m, b m → k s' m) : JK X R rk ρ' rest κ q b := by
  obtain ⟨s', w, e⟩ := h
  exact ((hr s').weak w).imp e
def KtLBM {S : Type} (env : S → List Cell) (kk k : S → Nat → Prop) : Kt := KtL env kk fun ρ' b => ∃ s', Wk ρ' (env s') ∧ ∀ m, b m → k s' m
theorem jk_for1J {Ti : M (List D)} {i n : Nat} {bodyM : (S → Nat → Prop) → S → D → (S → Nat → Prop) → Nat → Prop} (B : Bx X n) (hi : JI X R ρ tg iter Ti) (hg : JG X R tg [i] (bd1 i)) (w0 : Wk ρ (env s0))
    (hb : ∀ (k' : S → Nat → Prop) (s : S) (d : D) (kk : S → Nat → Prop), JK X R rk ((env s).set i (.dat d)) body (KtLBM env kk k') q (bodyM k' s d kk)) (hr : ∀ s, JK X R rk (env s) rest κ q (k s)) (hs : ∀ x, foldedSetIterable iter X.env x = pure x := by intro _; rfl) :
    JK X R rk ρ (.For tg iter body [] pos :: rest) κ q (joinK k fun k' => Ti fun ds => forK (bodyM k') ds s0 k') :=
  jk_for1 (env := env) (s0 := s0) B hi hg w0 (fun s d kk => (hb k s d kk).kmono (fun _ _ h => h) (fun ρ' o h => brk_keyM hr ρ' o h) fun _ _ h => h) hr hs
theorem jk_for2J {Ti : M (List D)} {i j n : Nat} {bodyM : (S → Nat → Prop) → S → D → D → (S → Nat → Prop) → Nat → Prop} (B : Bx X n) (hi : JI X R ρ tg iter Ti) (hg : JG X R tg [i, j] (bdT [i, j])) (w0 : Wk ρ (env s0))
    (hb : ∀ (k' : S → Nat → Prop) (s : S) (d e : D) (kk : S → Nat → Prop), JK X R rk (((env s).set i (.dat d)).set j (.dat e)) body (KtLBM env kk k') q (bodyM k' s d e kk)) (hr : ∀ s, JK X R rk (env s) rest κ q (k s)) (hs : ∀ x, foldedSetIterable iter X.env x = pure x := by intro _; rfl) :
    JK X R rk ρ (.For tg iter body [] pos :: rest) κ q (joinK k fun k' => Ti fun ds => forK (fun s d kk => un2M d fun x y => bodyM k' s x y kk) ds s0 k') :=
  jk_for2 (env := env) (s0 := s0) B hi hg w0 (fun s d e kk => (hb k s d e kk).kmono (fun _ _ h => h) (fun ρ' o h => brk_keyM hr ρ' o h) fun _ _ h => h) hr hs
theorem jk_onD {c : Cell} {k : D → Nat → Prop} {sts : List Stmt} {f : Cell → List Cell} (h : ∀ d, JK X R rk (f (.dat d)) sts κ q (k d)) : JK X R rk (f c) sts κ q (onDM k c) := by
  cases c with
  | dat d => exact h d
  | _ => exact ⟨fun _ _ _ _ _ _ ⟨_, _, _, _, _, t, _⟩ => t.elim⟩
theorem jk_onL {c : Cell} {k : List D → Nat → Prop} {sts : List Stmt} {f : Cell → List Cell} (h : ∀ d, JK X R rk (f (.own d)) sts κ q (k d)) : JK X R rk (f c) sts κ q (onLM k c) := by
  cases c with
  | own d => exact h d
  | _ => exact ⟨fun _ _ _ _ _ _ ⟨_, _, _, _, _, t, _⟩ => t.elim⟩
end
end Dl

set_option Elab.async false
set_option linter.all false
set_option autoImplicit false
set_option maxRecDepth 100000
set_option maxHeartbeats 1000000
namespace Dl
open PySem L2 PySem.Spec PyProof.Rows

/-! ### the script -/
def rScr (K : PySem.W.Frag) (a : Addr) (ns : List Int) (ent : Hp) : Res where
  vol := fun _ => False
  S := fun G => SqL K G a (ns.map V.int)
  Dy := fun _ _ => True
  sm := fun e h => by
    rcases h with (h | ⟨o, h⟩) | h
    · exact .inl (.inl (e _ _ h))
    · exact .inl (.inr ⟨o, e _ _ h⟩)
    · exact .inr h
  dm := fun _ _ => trivial
  ent := ent
section
variable {X : Cx} {ρ : List Cell} {e : Expr} {es : List Expr} {pos p p2 p3 p4 p5 px : Pos} {x y : Str} {a : Addr} {ns : List Int} {ent : Hp} {k n : Nat} {lo hi : Option Expr}
theorem cut_map (ns : List Int) (lo hi : Option Int) : ∃ ms : List Int, cutV (ns.map V.int) lo hi = ms.map V.int ∧ cutD (ns.map PyData.int) lo hi = ms.map PyData.int := by
  refine ⟨(ns.drop (HT.sIx ns.length 0 lo)).take (HT.sIx ns.length ns.length hi - HT.sIx ns.length 0 lo), ?_, ?_⟩
  · unfold cutV; simp
  · unfold cutD; simp
/-- script[lo:hi] -/
theorem je_scr {ol oh : Option (Option Int)} (i : Nat) (hl : JO X (rScr X.K a ns ent) ρ lo (lift ol)) (hh : JO X (rScr X.K a ns ent) ρ hi (lift oh)) (hρ : ρ[i]? = some (.raw (.ref a)) := by rfl) (hN : X.N[i]? = some x := by rfl)
    (hv : Vis X.env.scope x := by first | exact Or.inl rfl | exact Or.inr (Or.inl rfl) | exact Or.inr (Or.inr rfl)) (hd : (x == ("__debug__" : Str)) = false := by decide) (hcd : (x == ("__classdict__" : Str)) = false := by decide) :
    JE X (rScr X.K a ns ent) ρ (.Subscript (.Name x p) (.Slice lo hi none p2) pos) (slO (some (.list (ns.map PyData.int))) ol oh) := by
  refine PE.imp (pe_slice sl_list (pe_var (i := i) hN hv hd hcd) hl hh) fun σ H Q ⟨G, m, q, S, t, k⟩ => ?_
  obtain ⟨z, hz, hq⟩ := t
  simp only [slO, Option.bind_some] at hz
  obtain ⟨l, h1, hz⟩ := Option.bind_eq_some_iff.mp hz
  obtain ⟨u, h2, hz⟩ := Option.bind_eq_some_iff.mp hz
  cases hz
  refine ⟨_, S.cell i _ hρ, G, m, (fun o m1 => o = l ∧ q (.list (cutD (ns.map PyData.int) l u)) m1), S, ⟨l, h1, rfl, hq⟩, fun o G1 H1 m1 S1 g1 q1 => ⟨G1, m1, (fun o m1 => o = u ∧ q (.list (cutD (ns.map PyData.int) l u)) m1), S1, ⟨u, h2, rfl, q1.2⟩, fun o2 G2 H2 m2 S2 g2 q2 => ?_⟩⟩
  obtain ⟨rfl, _⟩ := q1
  obtain ⟨rfl, q2⟩ := q2
  refine ⟨a, ns.map V.int, rfl, (rScr X.K a ns ent).sm S2.gh S2.js, fun p hp => ?_⟩
  obtain ⟨ms, e1, e2⟩ := cut_map ns o o2
  rw [e1]
  rw [e2] at q2
  obtain ⟨g4, s4⟩ := grow_new S2.gh hp (.lst (ms.map V.int))
  obtain ⟨S4, g4'⟩ := S2.growS g4 s4
  exact k _ _ _ _ m2 S4 ((g1.trans S1.vh g2).trans S2.vh g4') (.lst upd_same RpL.ofInts) q2
end
/-- what _law_open promises: F ns, a new list -/
def spOpen (K : PySem.W.Frag) (F : List Int → Option (List D)) : Sp := fun vs H Q _ => ∃ G a ns ds, vs = [.ref a] ∧ Same G H ∧ SqL K G a (ns.map V.int) ∧ F ns = some ds ∧ ∀ v G' H', Grow (fun _ => False) G H G' H' → Same G' H' → RK.lst.rel H G' H' v ds → Q v H'
section
variable {P : Program} {w : World} {K : PySem.W.Frag} {mg : Str → Option Value} {base : Heap}
theorem kn_open {F : List Int → Option (List D)} {x : Str} {st : Stmt} {f : Addr} {fd : FuncData} {N ps : List Str} {k : Nat} (Fn : Fun K x x st f fd) (mx : mg x = some (.ref f)) (bs : Binds K fd ps []) (Sc : FnScope N ps (defScope st)) (hn : ps.length = 1)
    (body : ∀ (cdv : Value) (A : Around) (outer : List Env) (s : Shared) (H : Hp) (E : XK), Bx (cxG P w K mg base N x st f cdv A outer s H E) k → ∀ (a : Addr) (ns : List Int),
      JKE (cxG P w K mg base N x st f cdv A outer s H E) (rScr K a ns H) .lst (startP N a []) (defBody st) KtFL (F ns)) : Kn P w K mg base x (k + 1) (spOpen K F) := by
  refine ⟨f, fd, ps, fn_g Fn Sc (fun vs H Q E h => ?_) (fun cdv A outer s H vs Q E hg hr h => ?_), mx, Fn.kp, bs⟩
  · obtain ⟨G, a, ns, ds, rfl, _⟩ := h
    rw [hn]; rfl
  · obtain ⟨G, a, ns, ds, rfl, gh, hS, hF, k⟩ := h
    have B : Bx (cxG P w K mg base N x st f cdv A outer s H E) _ := ⟨hr, hg, rfl, Sc.nd, PassesOwn.never⟩
    have S : Sat (rScr K a ns H) G H 0 := ⟨gh, fun _ z => z.elim, fun _ z => z.elim, hS, trivial, fun _ h => h⟩
    have rt : Rt (rScr K a ns H) .lst G (fun a' _ => a' = ds) Q := fun v a' G' H' m' S' g' rr e => by
      subst e
      exact k v G' H' g' S'.gh rr
    refine ⟨_, (body cdv A outer s H E B a ns ds).nox, G, G, 0, sit_startP S .nil, Grow.refl _ _ _, hF, rt, ?_, ?_, ?_⟩
    · intro _ _ _ _ _ _ h; obtain ⟨_, h, _⟩ := h; exact h.elim
    · intro _ _ _ _ _ _ h; obtain ⟨_, h, _⟩ := h; exact h.elim
    · intro _ _ _ _ _ _ h; obtain ⟨_, h, _⟩ := h; exact h.elim
end

/-! ### the law -/
def spLaw (K : PySem.W.Frag) : Sp := fun vs H Q _ => ∃ (a : Addr) (ns : List Int), vs = [.ref a] ∧ SqL K H a (ns.map V.int) ∧ ns.length ≤ 63 ∧ ∀ H', Q (.bl true) H'
def qTrue : D → Nat → Prop := fun d _ => d = .bool true
def tOpen (K : PySem.W.Frag) (F : List Int → Option (List D)) (a : Addr) : TE := fun σ H Q => ∃ G ns ds, σ[0]? = some (some (.ref a)) ∧ Same G H ∧ SqL K G a (ns.map V.int) ∧ F ns = some ds ∧ ∀ v G' H', Grow (fun _ => False) G H G' H' → Same G' H' → RK.lst.rel H G' H' v ds → Q v H'
section
variable {X : Cx} {pos p p2 p3 p4 p5 px : Pos} {x y z : Str} {a : Addr} {k : Nat} {F : List Int → Option (List D)}
theorem ps_open (i : Nat) (B : Bx X k) (h : Kn X.prog X.w X.K X.mg X.base x k (spOpen X.K F)) (hN : X.N[0]? = some y := by rfl) (hv : Vis X.env.scope y := by first | exact Or.inl rfl | exact Or.inr (Or.inl rfl) | exact Or.inr (Or.inr rfl)) (hd : (y == ("__debug__" : Str)) = false := by decide) (hcd : (y == ("__classdict__" : Str)) = false := by decide) (hg : Gl X x := by rfl)
    (hdb : (x == ("__debug__" : Str)) = false := by decide) (he : starEach [.Name y p2] X.env = (false, eval (.Name y p2) X.env) :: starEach [] X.env := by rfl) (hpl : (backTo p4 (starEach [] X.env)).any (·.1) = false := by rfl) (hi : X.N[i]? = some z := by rfl) (hx : Loc X.env.scope z := by first | exact Or.inl rfl | exact Or.inr rfl)
    (hs : swapsWith (.Call (.Name x p) [.Name y p2] [] p4) (some (.Name z p5)) pos.line X.env = pure false := by rfl) (hf : X.fn z = true ∨ X.env.scope.names.lookup z = some .local := by first | exact .inl rfl | exact .inr rfl) :
    PS X (.Assign [.Name z p5] (.Call (.Name x p) [.Name y p2] [] p4) pos) (tAsg (tOpen X.K F a) (gName i)) :=
  PS.imp (ps_set B.nd hi hx (pe_kn h B (pa_cons (pe_var (i := 0) hN hv hd hcd) pa_nil he) hg hdb he hpl) hs hf) fun Dn σ H ⟨G, ns, ds, e, gh, hS, hF, k⟩ => ⟨_, e, G, a, ns, ds, rfl, gh, hS, hF, k⟩
end
section
variable {P : Program} {w : World} {K : PySem.W.Frag} {mg : Str → Option Value} {base : Heap}
theorem law_g {F : List Int → Option (List D)} {L : List Int → Nat → Prop} {x : Str} {st st0 : Stmt} {rest : List Stmt} {f : Addr} {fd : FuncData} {N ps : List Str} {k i : Nat} (Fn : Fun K x x st f fd) (Sc : FnScope N ps (defScope st)) (hn : ps.length = 1) (hb : defBody st = st0 :: rest) (hi : 0 < i) (hiN : i < N.length)
    (hF : ∀ ns : List Int, ns.length ≤ 63 → ∃ cs : List Int, F ns = some [.list (cs.map PyData.int), .int 0, .int 0]) (hL : ∀ cs, L cs 0)
    (first : ∀ (cdv : Value) (A : Around) (outer : List Env) (s : Shared) (H : Hp) (E : XK), Bx (cxG P w K mg base N x st f cdv A outer s H E) k → ∀ a : Addr, PS (cxG P w K mg base N x st f cdv A outer s H E) st0 (tAsg (tOpen K F a) (gName i)))
    (body : ∀ (cdv : Value) (A : Around) (outer : List Env) (s : Shared) (H : Hp) (E : XK), Bx (cxG P w K mg base N x st f cdv A outer s H E) k → ∀ (a pa ca : Addr) (cs : List Int),
      JK (cxG P w K mg base N x st f cdv A outer s H E) (rPen pa ca cs H) .dat ((startP N a []).set i (.raw (.ref pa))) rest (KtF .dat qTrue) qTrue (L cs)) : FnG P w K mg base CX0 (k + 1) f fd ps (spLaw K) := by
  refine fn_g Fn Sc (fun vs H Q E h => ?_) (fun cdv A outer s H vs Q E hg hr h => ?_)
  · obtain ⟨a, ns, rfl, _⟩ := h
    rw [hn]; rfl
  · obtain ⟨a, ns, rfl, hS, hl, hQ⟩ := h
    have B : Bx (cxG P w K mg base N x st f cdv A outer s H E) _ := ⟨hr, hg, rfl, Sc.nd, PassesOwn.never⟩
    obtain ⟨cs, hcs⟩ := hF ns hl
    rw [hb]
    refine ⟨_, (pss_cons (first cdv A outer s H E B a) (pss_any fun z : Addr × Addr => body cdv A outer s H E B a z.1 z.2 cs)).nox, ?_⟩
    -- what is known of the heap: the script alone
    have hG : ∃ G : Hp, Same G H ∧ SqL K G a (ns.map V.int) := by
      refine ⟨fun b => if b = a then H a else none, fun b o e => ?_, ?_⟩
      · have e : (if b = a then H a else none) = some o := e
        by_cases z : b = a
        · rw [if_pos z] at e; rw [z]; exact e
        · rw [if_neg z] at e; cases e
      · rcases hS with (h | ⟨o, h⟩) | h
        · exact .inl (.inl ((if_pos rfl).trans h))
        · exact .inl (.inr ⟨o, (if_pos rfl).trans h⟩)
        · exact .inr h
    obtain ⟨G, gh, hSG⟩ := hG
    refine ⟨G, ns, _, ?_, gh, hSG, hcs, fun v G' H' g' s' rr => ?_⟩
    · rfl
    · obtain ⟨pa, ws, rfl, en, gp, hp, r⟩ := rr
      cases r with
      | cons r1 r =>
        cases r with
        | cons r2 r =>
          cases r with
          | cons r3 r =>
            cases r
            cases r2
            cases r3
            cases r1 with
            | @lst ca us _ hca rc =>
              have e := rc.ints
              subst e
              have S : Sat (rPen pa ca cs H) G' H' 0 := ⟨s', fun b vb => by
                have vb : b = pa := vb
                subst vb; exact gp, fun b vb => by
                have vb : b = pa := vb
                subst vb; rw [hp]; exact fun z => (nomatch z), hca, ⟨0, 0, hp, Nat.le_refl _⟩, fun b hb => free_of g' (fun _ z => z.elim) hb⟩
              have S1 : Sit (rPen pa ca cs H) (L2.start N [.ref a]) (startP N a []) G' H' 0 := sit_startP S .nil
              have S2 := S1.setC i (some (.ref pa)) (.raw (.ref pa)) (fun _ z => nomatch z) rfl
              have rt : Rt (rPen pa ca cs H) .dat G' qTrue Q := fun v d G2 H2 m2 S2 g2 rr e => by
                have e : d = .bool true := e
                subst e
                cases rr
                exact hQ H2
              have g0 : Grow (rPen pa ca cs H).vol G' H G' H' := ⟨Same.refl _, fun b o nv h => g'.hh b o (fun z => z) h, fun b gb _ => gb⟩
              refine ⟨(pa, ca), G', G', 0, S2, g0, hL cs, rt, ?_, ?_, ?_⟩
              · intro ρ' b σ' G2 H2 m' h hb S' g2 _
                exact Falls.ok (R := rPen pa ca cs H) (Gb := G') rt h hb S' g2
              · intro _ _ _ _ _ _ h; exact h.elim
              · intro _ _ _ _ _ _ h; exact h.elim
end
end Dl

set_option Elab.async false
set_option linter.all false
set_option autoImplicit false
set_option maxRecDepth 100000
set_option maxHeartbeats 1000000
namespace Dl
open PySem L2 PySem.Spec PyProof.Rows

/-! ### the end: the law's call, from its promise -/
abbrev Goal (P : Program) (w : World) (fa a : Addr) (t : Shared) : Prop := codeAny (model P w) callerA (.call (.ref fa) ⟨[.ref a], []⟩) (fun r z => r = .ok (.ret (.bool true)) ∧ OldK t.heap z.heap ∧ z.os = t.os ∧ AllBare z.gens) t
section
variable {P : Program} {w : World} {K : PySem.W.Frag} {mg mb : Str → Option Value} {k : Nat} {fa a : Addr} {fd : FuncData} {t : Shared} {vs : List Value} {ns : List Int}
/-- over an abstract heap T that tracks at most the script -/
theorem end_core (kin : K.In t.heap) (n1 : t.heap.Ns mainGlobals mg) (n2 : t.heap.Ns builtinsNs mb) (nb : ∀ x : Str, x ≠ "__name__" → mb x = bootBuiltins x) (nl : t.heap.NoLimit) (g0 : t.gens = #[]) (obj : t.heap.get? a = some { cls := .type "list", data := .seq vs.toArray })
    (room : Room k callerA) (short : ns.length ≤ 63) (F : ∀ base : Heap, K.In base → base.Ns mainGlobals mg → FnG P w K mg base CX0 k fa fd ["script"] (spLaw K)) (bind : ∀ (s : Shared) (u : Value), BindsTo s fd ⟨[u], []⟩ [("script", u)])
    (T : Hp) (only : Only T) (scr : SqL K T a (ns.map V.int)) (ok : HOk P w T t.heap) (at1 : ∀ b, T b ≠ none → b = a) (lk : T a ≠ none → K.lookup a = none) : Goal P w fa a t := by
  have same : ∀ {b : Addr}, T b ≠ none → b = a := fun {b} h => at1 b h
  have notdict : ∀ {b : Addr} {o : Obj} {es : Array DictEntry} {i : Nat}, t.heap.get? b = some o → o.data = .dict es i → T b = none := fun {b o es i} e d => Classical.byContradiction fun z => by
    have := same z; subst this
    rw [obj] at e; cases e
    have d' : Data.seq vs.toArray _ = Data.dict es i := d
    cases d'
  have ns' : ∀ {b : Addr} {m : Str → Option Value}, t.heap.Ns b m → (hidT t.heap T).Ns b m := fun {b m} z => by
    obtain ⟨o, es, i, e, d, r⟩ := z
    exact ⟨o, es, i, hidT_get e (notdict e d), d, r⟩
  have kin' : K.In (hidT t.heap T) := fun b o e => hidT_get (kin b o e) (Classical.byContradiction fun z => by
    have := same z; subst this
    rw [lk z] at e; cases e)
  have md : Mod K mg (hidT t.heap T) := by
    refine ⟨kin', ns' n1, ⟨mb, ns' n2, nb⟩, ?_⟩
    obtain ⟨mc, h1, h2⟩ := nl
    exact ⟨mc, ns' h1, h2⟩
  have env : Env0 P w K mg (hidT t.heap T) callerA [] t T := by
    refine ⟨rfl, md, fun b o e => of_hidT e, Nat.le_of_eq (hidT_size _ _), trivial, ?_, ok, .of_eq g0⟩
    intro b hb
    exact absurd (show b ∈ ([] : List Addr) from hb) (by simp)
  have run := (F _ kin' (ns' n1)).run callerA [] t T ⟨[.ref a], []⟩ [.ref a] [.ref a] (fun v _ => v = .bl true) (fun _ _ _ => False) rfl room env (bind t (.ref a)) (.cons rfl .nil) ⟨a, ns, rfl, scr, short, fun _ => rfl⟩
  refine codeAny_mono run fun r z h => ?_
  match r, h with
  | .ok (.ret u), h =>
    obtain ⟨v, T', os, bare, un, ok', rv, rfl⟩ := h
    obtain rfl : u = Value.bool true := rv
    refine ⟨rfl, OldK.of_keep fun b o e => ?_, os, bare⟩
    rcases only b with y | ⟨ob, xs, y⟩
    · exact un.keep b o e y (fun z => absurd (show b ∈ ([] : List Addr) from z) (by simp)) (by simp)
    · have y2 := un.frzs b ob _ y
      have e1 := (ok b _ y).1
      rw [e] at e1
      cases e1
      exact (ok' b _ y2).1
  | .error e, h => exact False.elim h
theorem end_call (kin : K.In t.heap) (n1 : t.heap.Ns mainGlobals mg) (n2 : t.heap.Ns builtinsNs mb) (nb : ∀ x : Str, x ≠ "__name__" → mb x = bootBuiltins x) (nl : t.heap.NoLimit) (g0 : t.gens = #[]) (obj : t.heap.get? a = some { cls := .type "list", data := .seq vs.toArray })
    (hints : IntsAre vs ns) (room : Room k callerA) (short : ns.length ≤ 63) (F : ∀ base : Heap, K.In base → base.Ns mainGlobals mg → FnG P w K mg base CX0 k fa fd ["script"] (spLaw K)) (bind : ∀ (s : Shared) (u : Value), BindsTo s fd ⟨[u], []⟩ [("script", u)]) : Goal P w fa a t := by
  have rv := vals_ints hints
  have ll := hints.length
  have lz : ns.length ≤ sizeLine := Nat.le_trans short (by decide)
  have C := end_core kin n1 n2 nb nl g0 obj room short F bind
  cases hk : K.lookup a with
  | some o =>
    have e := kin a o hk
    rw [obj] at e
    cases e
    refine C (fun _ => none) (fun _ => .inl rfl) (.inr ⟨_, vs.toArray, _, hk, rfl, rfl, rfl, ?_, by simpa using rv⟩) (fun b u z => ?_) (fun b z => absurd rfl z) fun z => absurd rfl z
    · rw [List.size_toArray, ll]; exact lz
    · have z' : (none : Option HO) = some u := z
      cases z'
  | none =>
    let T : Hp := upd (fun _ => none) a (.frz { cls := .type "list", data := .seq vs.toArray } (.lst (ns.map V.int)))
    have off : ∀ {b : Addr}, b ≠ a → T b = none := fun {b} n => upd_ne n
    have on : T a = some (.frz { cls := .type "list", data := .seq vs.toArray } (.lst (ns.map V.int))) := upd_same
    refine C T (fun b => ?_) (.inl (.inr ⟨_, on⟩)) (fun b u z => ?_) (fun b z => Classical.byContradiction fun n => z (off n)) fun _ => hk
    · by_cases n : b = a
      · subst n; exact .inr ⟨_, _, on⟩
      · exact .inl (off n)
    · by_cases n : b = a
      · subst n
        rw [on] at z
        cases z
        exact ⟨obj, by rw [List.length_map]; exact lz, vs, _, rv, obj⟩
      · rw [off n] at z; cases z
end
/-- the goal that the head leaves, from the law's promise -/
theorem walkG {l : PySem.W.OpenLaw} {k : Nat} {q : Program} {loose : List Str} {XP : (Str → Option Value) → Heap → Prop} {YP : World → Heap → Prop} {d : DefRec} {K : Params → PySem.W.Frag} (most : l.most = some 63) (nodef : d.params.defaults = []) (room : Room k callerA)
    (inK : ∀ (w : World) (h : Heap), YP w h → (K w.params).In h) (F : ∀ (w : World) (mg : Str → Option Value) (fa : Addr) (h : Heap), (K w.params).In h → h.Ns mainGlobals mg → mg d.name = some (.ref fa) → ∃ fd : FuncData, (∀ (s : Shared) (u : Value), BindsTo s fd ⟨[u], []⟩ [("script", u)]) ∧
      ∀ base : Heap, (K w.params).In base → base.Ns mainGlobals mg → FnG l.prog w (K w.params) mg base CX0 k fa fd ["script"] (spLaw (K w.params))) : PySem.W.WalkO q loose XP YP l.row.toRowW d [] (fun f vs => PySem.call f vs) := by
  refine Att.attach_call most nodef fun w s0 t mg mb fa o pm cd doc a vs ns G Y ho hd hcd hmg obj hints short g0 => ?_
  obtain ⟨fd, bind, hF⟩ := F w mg fa _ (inK w _ Y) G.T.g hmg
  exact end_call (inK w _ Y) G.T.g G.T.b G.T.builtins G.T.nolimit g0 obj hints room short hF bind
end Dl

set_option Elab.async false
set_option linter.all false
set_option autoImplicit false
set_option maxRecDepth 100000
set_option maxHeartbeats 1000000
namespace Dl
open PySem L2
def G0 {α : Type} (f : M α) : List D → M α
  | [] => f
  | _ => fun _ _ => False
def G1 {α : Type} (f : D → M α) : List D → M α
  | [x] => f x
  | _ => fun _ _ => False
def G2 {α : Type} (f : D → D → M α) : List D → M α
  | [x, y] => f x y
  | _ => fun _ _ => False
def G3 {α : Type} (f : D → D → D → M α) : List D → M α
  | [x, y, z] => f x y z
  | _ => fun _ _ => False
def G4 {α : Type} (f : D → D → D → D → M α) : List D → M α
  | [x, y, z, u] => f x y z u
  | _ => fun _ _ => False
def G5 {α : Type} (f : D → D → D → D → D → M α) : List D → M α
  | [x, y, z, u, v] => f x y z u v
  | _ => fun _ _ => False
def G6 {α : Type} (f : D → D → D → D → D → D → M α) : List D → M α
  | [x, y, z, u, v, w] => f x y z u v w
  | _ => fun _ _ => False
/-! ### the law's own words, as all laws have them -/
def m__law_open (ns : List Int) : Option (List D) :=
  ((C1 dItems (slO (some (.list (ns.map PyData.int))) (some none) ((some (PyData.int 12)).bind asI))).bind fun cells1 => ((C1 dEnum (slO (some (.list (ns.map PyData.int))) ((some (PyData.int 12)).bind asI) ((some (PyData.int 63)).bind asI))).bind fun ds => forO (S := List D) (fun s2 d kk3 => un2 d fun k6 cell7 => (setIO s2 (immO (b2 dAdd (b2 dIx (some (PyData.list s2)) (b2 dMod (C1 dInt (some k6)) (some (PyData.int 12)))) (some cell7))) (b2 dMod (C1 dInt (some k6)) (some (PyData.int 12))) fun cells8 => (kk3 cells8))) ds cells1 fun s5 => (consO (some (PyData.list s5)) (consO (some (PyData.int 0)) (consO (some (PyData.int 0)) (some []))))))
@[irreducible] def m__law_spread (cell1 at2 : D) : Option (D) :=
  (ifO ((b2 dGe (some cell1) (b2 dPow (some (PyData.int 10)) (some (PyData.int 18)))).bind asB) (some cell1) (((consO (some (PyData.int 2147483629)) (consO (some (PyData.int 2147483587)) (consO (some (PyData.int 2147483579)) (consO (some (PyData.int 2147483563)) (consO (some (PyData.int 2147483549)) (consO (some (PyData.int 2147483543)) (consO (some (PyData.int 2147483497)) (consO (some (PyData.int 2147483489)) (some []))))))))).map PyData.list).bind fun primes3 => ((b2 dAdd (some primes3) ((consO (some (PyData.int 2147483477)) (consO (some (PyData.int 2147483423)) (consO (some (PyData.int 2147483399)) (consO (some (PyData.int 2147483353)) (consO (some (PyData.int 2147483323)) (some [])))))).map PyData.list)).bind fun primes4 => ((b2 dAdd (b2 dAdd (b2 dMul (b2 dMod (C1 dInt (some cell1)) (some (PyData.int 1000000007))) (b2 dAdd (b2 dMul (some (PyData.int 2)) (some at2)) (some (PyData.int 69069)))) (b2 dMul (some at2) (some (PyData.int 40503)))) (some (PyData.int 977))).bind fun one5 => ((b2 dMod (C1 dInt (b2 dPow (some one5) (some (PyData.int 3)))) (b2 dIx (some primes4) (b2 dMod (C1 dInt (some at2)) (some (PyData.int 13))))).bind fun one6 => ((b2 dMod (C1 dInt (b2 dPow (b2 dAdd (b2 dAdd (b2 dMul (some one6) (b2 dAdd (some at2) (some (PyData.int 3)))) (b2 dMod (C1 dInt (some cell1)) (some (PyData.int 65537)))) (some (PyData.int 5))) (some (PyData.int 5)))) (b2 dIx (some primes4) (b2 dMod (C1 dInt (b2 dAdd (some at2) (some (PyData.int 5)))) (some (PyData.int 13))))).bind fun two7 => ((b2 dMod (C1 dInt (b2 dPow (b2 dAdd (b2 dAdd (some two7) (b2 dMod (C1 dInt (some one6)) (some (PyData.int 1009)))) (some at2)) (some (PyData.int 3)))) (b2 dIx (some primes4) (b2 dMod (C1 dInt (b2 dAdd (some at2) (some (PyData.int 7)))) (some (PyData.int 13))))).bind fun three8 => (b2 dAdd (b2 dMul (b2 dAdd (b2 dMul (some one6) (some (PyData.int 2147483647))) (some two7)) (some (PyData.int 2147483647))) (some three8)))))))))
def b__law_take (cs : List Int) (amount1 : D) (q : D → Nat → Prop) : Nat → Prop :=
  (joinK (fun (s2 : Unit) => ((op2 dMod (appM (consM (penAt cs 2) nilM) (F1 dInt)) (lift (some amount1))) fun found10 => ((op2 dFdiv (penAt cs 2) (lift (some amount1))) fun d => penSet 2 d ((lift (some found10)) q)))) fun kk3 => ifK (bindM (op2 dLt (penAt cs 2) (lift (some amount1))) asB) ((penAt cs 1) fun at4 => ((lift (some (PyData.int 0))) fun cell5 => (joinK (fun (s6 : D) => ((lift (b2 dAdd (some at4) (some (PyData.int 1)))) fun d => penSet 1 d ((lift (C2 m__law_spread (some s6) (some at4))) fun d => penSet 2 d (kk3 ())))) fun kk7 => ifK (bindM (op2 dLt (lift (some at4)) (appM (consM (penAt cs 0) nilM) (F1 dLen))) asB) ((op2 dIx (penAt cs 0) (lift (some at4))) fun cell8 => (kk7 cell8)) (ifK (bindM (op2 dGt (appM (consM (penAt cs 0) nilM) (F1 dLen)) (lift (some (PyData.int 0)))) asB) ((op2 dMod (appM (consM (op2 dIx (penAt cs 0) (op2 dMod (lift (C1 dInt (b2 dAdd (b2 dMul (some at4) (some (PyData.int 5))) (some (PyData.int 3))))) (appM (consM (penAt cs 0) nilM) (F1 dLen)))) nilM) (F1 dInt)) (lift (b2 dAdd (b2 dPow (some (PyData.int 10)) (some (PyData.int 17))) (some at4)))) fun cell9 => (kk7 cell9)) (kk7 cell5))))) (kk3 ()))
/-! ### plain facts of the words -/
theorem atI_ok {α : Type} {xs : List α} {i : Int} (h0 : 0 ≤ i) (h : i < xs.length) : atI xs i = xs[i.toNat]? := by
  unfold atI ixN
  rw [if_pos h0, if_pos h]
  rfl
theorem dMul_ok {i j : Int} (hi : i.natAbs < 2 ^ 256) (hj : j.natAbs < 2 ^ 256) : dMul (.int i) (.int j) = some (.int (i * j)) := by
  have key : ∀ n : Nat, n < 2 ^ 256 → n.log2 ≤ 256 := fun n hn => by
    by_cases z : n = 0
    · subst z; decide
    · exact Nat.le_of_lt ((Nat.log2_lt z).mpr hn)
  have h1 := key _ hi
  have h2 := key _ hj
  show (if i.natAbs.log2 + j.natAbs.log2 < 1000000 then some (PyData.int (i * j)) else none) = _
  rw [if_pos (by omega)]
theorem dMod_ok {i j : Int} (h : 0 < j) : dMod (.int i) (.int j) = some (.int (i % j)) := if_pos h
theorem dFdiv_ok {i j : Int} (h : 0 < j) (h2 : j.natAbs < 2 ^ 256) : dFdiv (.int i) (.int j) = some (.int (i / j)) := by
  refine if_pos ⟨h, ?_⟩
  have : j.natAbs.log2 < 256 := (Nat.log2_lt (by omega)).mpr h2
  omega
theorem dPow_ok {i : Int} {n : Nat} (h : i.natAbs < 2 ^ 64) (hn : n ≤ 1000000) : dPow (.int i) (.int n) = some (.int (i ^ n)) := by
  refine (if_pos ⟨by omega, by omega, h⟩).trans ?_
  rw [Int.toNat_natCast]
theorem dIx_list {xs : List D} {i : Int} (h0 : 0 ≤ i) (h : i < xs.length) : dIx (.list xs) (.int i) = xs[i.toNat]? := atI_ok h0 h
theorem dIx_tup {xs : List D} {i : Int} (h0 : 0 ≤ i) (h : i < xs.length) : dIx (.tuple xs) (.int i) = xs[i.toNat]? := atI_ok h0 h
theorem pull {α β : Type} {o : Option α} {f : α → Option β} {a : α} (h : o = some a) : o.bind f = f a := by rw [h]; rfl
theorem b2_ok {f : D → D → Option D} {oa ob : Option D} {a b : D} (ha : oa = some a) (hb : ob = some b) : b2 f oa ob = f a b := by rw [ha, hb]; rfl
theorem ifO_ok {α : Type} {oc : Option Bool} {oa ob : Option α} {t : Bool} (h : oc = some t) : ifO oc oa ob = if t = true then oa else ob := by rw [h]; rfl
theorem b2_some (f : D → D → Option D) (a b : D) : b2 f (some a) (some b) = f a b := rfl
theorem c1_some {β : Type} (f : D → Option β) (a : D) : C1 f (some a) = f a := rfl
theorem dInt_int (i : Int) : dInt (.int i) = some (.int i) := rfl
theorem dMod_i {i j : Int} (h : 0 < j) : b2 dMod (C1 dInt (some (.int i))) (some (.int j)) = some (.int (i % j)) := dMod_ok (i := i) h
theorem asI_int (i : Int) : (some (PyData.int i)).bind asI = some (some i) := rfl
theorem slO_some (d : D) (lo hi : Option Int) : slO (some d) (some lo) (some hi) = dCut d lo hi := rfl
theorem lift_of {α : Type} {o : Option α} {a : α} {q : α → Nat → Prop} {m : Nat} (h : o = some a) (hq : q a m) : lift o q m := ⟨a, h, hq⟩

/-! ### _law_open -/
theorem cutD_lo (xs : List D) (n : Nat) : cutD xs none (some (n : Int)) = xs.take n := by
  unfold cutD
  rw [HT.sIx_none, HT.sIx_nat]
  show List.take (min n xs.length - 0) (List.drop 0 xs) = _
  rw [List.drop_zero, Nat.sub_zero]
  by_cases h : n ≤ xs.length
  · rw [Nat.min_eq_left h]
  · rw [Nat.min_eq_right (by omega), List.take_of_length_le (Nat.le_refl _), List.take_of_length_le (by omega)]
theorem setL_int {xs : List Int} {i : Nat} {z : Int} : (xs.map PyData.int).set i (.int z) = (xs.set i z).map PyData.int := by
  rw [List.map_set]
theorem ixN_nat' {n j : Nat} (hj : j < n) : ixN n (j : Int) = some j := by
  unfold ixN
  rw [if_pos (by omega), if_pos (by omega), Int.toNat_natCast]
theorem open_step {n : Nat} {z : Int} {xs : List Int} {α : Type} {k : List D → Option α} (h : xs.length = 12) :
    ∃ ys : List Int, ys.length = 12 ∧ (setIO (xs.map PyData.int) (immO (b2 dAdd (b2 dIx (some (.list (xs.map PyData.int))) (b2 dMod (C1 dInt (some (.int (n : Nat)))) (some (.int 12)))) (some (.int z)))) (b2 dMod (C1 dInt (some (.int (n : Nat)))) (some (.int 12))) fun c => k c) = k (ys.map PyData.int) := by
  have hm : b2 dMod (C1 dInt (some (.int (n : Nat)))) (some (.int 12)) = some (.int (((n % 12 : Nat)) : Int)) := by
    rw [dMod_i (by decide)]
    congr 2
  have hl : (xs.map PyData.int).length = 12 := by simp [h]
  have hlt : n % 12 < xs.length := by omega
  refine ⟨xs.set (n % 12) (xs[n % 12] + z), by simp [h], ?_⟩
  rw [hm]
  have h1 : b2 dIx (some (.list (xs.map PyData.int))) (some (.int (((n % 12 : Nat)) : Int))) = some (.int xs[n % 12]) := by
    rw [b2_some, dIx_list (by omega) (by omega), Int.toNat_natCast]
    simp [hlt]
  rw [h1]
  have h2 : immO (b2 dAdd (some (.int xs[n % 12])) (some (.int z))) = some (.int (xs[n % 12] + z)) := rfl
  rw [h2]
  unfold setIO
  rw [Option.bind_some, Option.bind_some]
  show (ixN (xs.map PyData.int).length ((n % 12 : Nat) : Int)).bind _ = _
  rw [ixN_nat' (by omega), Option.bind_some, setL_int]
theorem open_loop {α : Type} {k : List D → Option α} : ∀ (zs : List Int) (n : Nat) (xs : List Int), xs.length = 12 → ∃ ys : List Int, ys.length = 12 ∧ forO (S := List D) (fun s2 d kk3 => un2 d fun k6 cell7 => (setIO s2 (immO (b2 dAdd (b2 dIx (some (.list s2)) (b2 dMod (C1 dInt (some k6)) (some (.int 12)))) (some cell7))) (b2 dMod (C1 dInt (some k6)) (some (.int 12))) fun cells8 => (kk3 cells8))) (enumD n (zs.map PyData.int)) (xs.map PyData.int) k = k (ys.map PyData.int)
  | [], n, xs, h => ⟨xs, h, rfl⟩
  | z :: zs, n, xs, h => by
    obtain ⟨ys, h1, e1⟩ := open_step (n := n) (z := z) (k := fun s' => forO (S := List D) (fun s2 d kk3 => un2 d fun k6 cell7 => (setIO s2 (immO (b2 dAdd (b2 dIx (some (.list s2)) (b2 dMod (C1 dInt (some k6)) (some (.int 12)))) (some cell7))) (b2 dMod (C1 dInt (some k6)) (some (.int 12))) fun cells8 => (kk3 cells8))) (enumD (n + 1) (zs.map PyData.int)) s' k) h
    obtain ⟨ws, h2, e2⟩ := open_loop zs (n + 1) ys h1
    exact ⟨ws, h2, e1.trans e2⟩
theorem law_open_ok (ns : List Int) (_ : ns.length ≤ 63) : ∃ cs : List Int, m__law_open ns = some [.list (cs.map PyData.int), .int 0, .int 0] := by
  obtain ⟨ms, _, e2⟩ := cut_map ns (some 12) (some 63)
  have hA : slO (some (.list (ns.map PyData.int))) (some none) ((some (PyData.int 12)).bind asI) = some (.list ((ns.take 12).map PyData.int)) := by
    rw [asI_int, slO_some]
    show some (PyData.list (cutD _ none (some ((12 : Nat) : Int)))) = _
    rw [cutD_lo, List.map_take]
  have hB : slO (some (.list (ns.map PyData.int))) ((some (PyData.int 12)).bind asI) ((some (PyData.int 63)).bind asI) = some (.list (ms.map PyData.int)) := by
    rw [asI_int, asI_int, slO_some]
    show some (PyData.list (cutD _ (some 12) (some 63))) = _
    rw [e2]
  unfold m__law_open
  rw [hA, hB]
  show ∃ cs : List Int, forO (S := List D) _ (enumD 0 (ms.map PyData.int)) ((ns.take 12).map PyData.int) _ = _
  by_cases hn : 12 ≤ ns.length
  · obtain ⟨ys, _, e⟩ := open_loop (k := fun s5 => (consO (some (.list s5)) (consO (some (.int 0)) (consO (some (.int 0)) (some []))))) ms 0 (ns.take 12) (by simp; omega)
    exact ⟨ys, e⟩
  · have : ms = [] := by
      have h1 : ms.length = (cutD (ns.map PyData.int) (some 12) (some 63)).length := by rw [e2]; simp
      have h2 : (cutD (ns.map PyData.int) (some ((12 : Nat) : Int)) (some ((63 : Nat) : Int))).length = 0 := by
        unfold cutD
        rw [HT.sIx_nat, HT.sIx_nat]
        simp; omega
      exact List.length_eq_zero_iff.mp (h1.trans h2)
    subst this
    exact ⟨ns.take 12, rfl⟩

/-! ### _law_spread -/
def primesN : List Int := [2147483629, 2147483587, 2147483579, 2147483563, 2147483549, 2147483543, 2147483497, 2147483489, 2147483477, 2147483423, 2147483399, 2147483353, 2147483323]
theorem prime_at (z : Int) : ∃ p : Int, b2 dIx (some (.list (primesN.map PyData.int))) (b2 dMod (C1 dInt (some (.int z))) (some (.int 13))) = some (.int p) ∧ 0 < p ∧ p < 2147483648 := by
  have hm : b2 dMod (C1 dInt (some (.int z))) (some (.int 13)) = some (.int (z % 13)) := dMod_i (by decide)
  rw [hm]
  have h0 : 0 ≤ z % 13 := Int.emod_nonneg _ (by decide)
  have h1 : z % 13 < 13 := Int.emod_lt_of_pos _ (by decide)
  have hlt : (z % 13).toNat < primesN.length := by show _ < 13; omega
  have hb : ∀ p ∈ primesN, 0 < p ∧ p < 2147483648 := by decide
  refine ⟨primesN[(z % 13).toNat], ?_, hb _ (List.getElem_mem hlt)⟩
  rw [b2_some, dIx_list h0 (by show z % 13 < 13; exact h1), List.getElem?_map, List.getElem?_eq_getElem hlt]
  rfl
theorem add_ok (i j : Int) : b2 dAdd (some (.int i)) (some (.int j)) = some (.int (i + j)) := rfl
theorem sub_ok (i j : Int) : b2 dSub (some (.int i)) (some (.int j)) = some (.int (i - j)) := rfl
theorem int_ok (i : Int) : C1 dInt (some (.int i)) = some (.int i) := rfl
theorem mul_ok {i j : Int} (hi : i.natAbs < 2 ^ 256) (hj : j.natAbs < 2 ^ 256) : b2 dMul (some (.int i)) (some (.int j)) = some (.int (i * j)) := dMul_ok hi hj
theorem mod_ok {i j : Int} (h : 0 < j) : b2 dMod (some (.int i)) (some (.int j)) = some (.int (i % j)) := dMod_ok h
theorem pow3_ok {i : Int} (h : i.natAbs < 2 ^ 64) : b2 dPow (some (.int i)) (some (.int 3)) = some (.int (i ^ 3)) := dPow_ok (n := 3) h (by decide)
theorem pow5_ok {i : Int} (h : i.natAbs < 2 ^ 64) : b2 dPow (some (.int i)) (some (.int 5)) = some (.int (i ^ 5)) := dPow_ok (n := 5) h (by decide)
theorem mul_lt {x y a b : Int} (h1 : 0 ≤ x) (h2 : x ≤ a) (h3 : 0 ≤ y) (h4 : y ≤ b) : 0 ≤ x * y ∧ x * y ≤ a * b := ⟨Int.mul_nonneg h1 h3, Int.mul_le_mul h2 h4 h3 (Int.le_trans h1 h2)⟩
theorem spread_ok (c : Int) (i : Nat) (hi : i < 2147483648) : ∃ r : Nat, C2 m__law_spread (some (.int c)) (some (.int (i : Nat))) = some (.int (r : Nat)) := by
  have hpow : b2 dPow (some (PyData.int 10)) (some (.int 18)) = some (.int (10 ^ 18)) := dPow_ok (i := 10) (n := 18) (by decide) (by decide)
  by_cases hc : (10 : Int) ^ 18 ≤ c
  · refine ⟨c.toNat, ?_⟩
    show m__law_spread (.int c) (.int i) = _
    unfold m__law_spread
    have ht : (b2 dGe (some (.int c)) (some (.int (10 ^ 18)))).bind asB = some true := by
      show some (decide _) = _
      rw [decide_eq_true hc]
    rw [hpow, ifO_ok ht]
    rw [if_pos rfl]
    congr 2
    omega
  · show ∃ r : Nat, m__law_spread (.int c) (.int i) = _
    have i0 : (0 : Int) ≤ (i : Int) := Int.natCast_nonneg i
    have i1 : (i : Int) < 2147483648 := by omega
    generalize (i : Int) = i at i0 i1
    have key : ∃ r : Int, 0 ≤ r ∧ m__law_spread (.int c) (.int i) = some (.int r) := by
      unfold m__law_spread
      have ht : (b2 dGe (some (.int c)) (some (.int (10 ^ 18)))).bind asB = some false := by
        show some (decide _) = _
        rw [decide_eq_false hc]
      rw [hpow, ifO_ok ht]
      rw [if_neg (by decide)]
      have hP : ∃ pr : D, ((consO (some (.int 2147483629)) (consO (some (.int 2147483587)) (consO (some (.int 2147483579)) (consO (some (.int 2147483563)) (consO (some (.int 2147483549)) (consO (some (.int 2147483543)) (consO (some (.int 2147483497)) (consO (some (.int 2147483489)) (some []))))))))).map PyData.list) = some pr ∧ b2 dAdd (some pr) ((consO (some (.int 2147483477)) (consO (some (.int 2147483423)) (consO (some (.int 2147483399)) (consO (some (.int 2147483353)) (consO (some (.int 2147483323)) (some [])))))).map PyData.list) = some (.list (primesN.map PyData.int)) := ⟨_, rfl, (if_pos (show (8 : Nat) + 5 ≤ sizeLine by decide) : (if (8 : Nat) + 5 ≤ sizeLine then some (PyData.list (primesN.map PyData.int)) else none) = _)⟩
      obtain ⟨pr, e1, e2⟩ := hP
      rw [pull e1, pull e2]
      have c0 : 0 ≤ c % 1000000007 := Int.emod_nonneg _ (by decide)
      have c1 : c % 1000000007 < 1000000007 := Int.emod_lt_of_pos _ (by decide)
      have d0 : 0 ≤ c % 65537 := Int.emod_nonneg _ (by decide)
      have d1 : c % 65537 < 65537 := Int.emod_lt_of_pos _ (by decide)
      rw [int_ok, mod_ok (i := c) (j := 1000000007) (by decide)]
      rw [mod_ok (i := c) (j := 65537) (by decide)]
      generalize c % 1000000007 = x at c0 c1
      generalize c % 65537 = y at d0 d1
      obtain ⟨m0, m1⟩ := mul_lt (x := x) (y := 2 * i + 69069) (a := 1000000007) (b := 4295036365) c0 (by omega) (by omega) (by omega)
      rw [mul_ok (i := 2) (j := i) (by decide) (by omega), add_ok, mul_ok (i := x) (j := 2 * i + 69069) (by omega) (by omega), mul_ok (i := i) (j := 40503) (by omega) (by decide), add_ok, add_ok]
      generalize x * (2 * i + 69069) = z at m0 m1
      rw [Option.bind_some]
      obtain ⟨p1, hp1, p1a, p1b⟩ := prime_at i
      obtain ⟨p2, hp2, p2a, p2b⟩ := prime_at (i + 5)
      obtain ⟨p3, hp3, p3a, p3b⟩ := prime_at (i + 7)
      rw [hp1, add_ok i 3, add_ok i 5, hp2, add_ok i 7, hp3, pow3_ok (i := z + i * 40503 + 977) (by omega), int_ok, mod_ok p1a, Option.bind_some]
      have o0 : 0 ≤ (z + i * 40503 + 977) ^ 3 % p1 := Int.emod_nonneg _ (by omega)
      have o1 : (z + i * 40503 + 977) ^ 3 % p1 < 2147483648 := Int.lt_trans (Int.emod_lt_of_pos _ p1a) p1b
      generalize (z + i * 40503 + 977) ^ 3 % p1 = u at o0 o1
      obtain ⟨n0, n1⟩ := mul_lt (x := u) (y := i + 3) (a := 2147483648) (b := 2147483651) o0 (by omega) (by omega) (by omega)
      rw [mul_ok (i := u) (j := i + 3) (by omega) (by omega), add_ok, add_ok]
      generalize u * (i + 3) = v at n0 n1
      rw [pow5_ok (i := v + y + 5) (by omega), int_ok, mod_ok p2a, Option.bind_some]
      have t0 : 0 ≤ (v + y + 5) ^ 5 % p2 := Int.emod_nonneg _ (by omega)
      have t1 : (v + y + 5) ^ 5 % p2 < 2147483648 := Int.lt_trans (Int.emod_lt_of_pos _ p2a) p2b
      generalize (v + y + 5) ^ 5 % p2 = w at t0 t1
      have e0 : 0 ≤ u % 1009 := Int.emod_nonneg _ (by decide)
      have e9 : u % 1009 < 1009 := Int.emod_lt_of_pos _ (by decide)
      rw [int_ok, mod_ok (i := u) (j := 1009) (by decide), add_ok, add_ok]
      generalize u % 1009 = s at e0 e9
      rw [pow3_ok (i := w + s + i) (by omega), int_ok, mod_ok p3a, Option.bind_some]
      have f0 : 0 ≤ (w + s + i) ^ 3 % p3 := Int.emod_nonneg _ (by omega)
      generalize (w + s + i) ^ 3 % p3 = r at f0
      rw [mul_ok (i := u) (j := 2147483647) (by omega) (by decide), add_ok, mul_ok (j := 2147483647) (by omega) (by decide), add_ok]
      exact ⟨_, by omega, rfl⟩
    obtain ⟨r, r0, hr⟩ := key
    exact ⟨r.toNat, by rw [hr, Int.toNat_of_nonneg r0]⟩
theorem ifk_t {A B : Nat → Prop} {m : Nat} {b : Bool} (h : b = true) (hA : A m) : (fun (t : Bool) m => if t = true then A m else B m) b m := by
  subst h; exact hA
theorem ifk_f {A B : Nat → Prop} {m : Nat} {b : Bool} (h : b = false) (hB : B m) : (fun (t : Bool) m => if t = true then A m else B m) b m := by
  subst h; exact hB
/-! ### _law_take: a number below the amount -/
@[irreducible] def m__law_take (n : D) : M D := fun q m => ∃ k : Nat, n = .int k ∧ 0 < k ∧ k < 2 ^ 256 ∧ m < 1000000000 ∧ ∀ v : Nat, v < k → q (.int v) (m + 1)
theorem pen_at {cs : List Int} {j i v : Nat} {q : D → Nat → Prop} {d : D} (h : (penD cs i v)[j]? = some d) (hq : q d (enc i v)) : penAt cs j q (enc i v) := ⟨i, v, d, rfl, h, hq⟩
theorem pen_set1 {i v n : Nat} {z : Int} {k : Nat → Prop} (h : z = (n : Int)) (hk : k (enc n v)) : penSet 1 (.int z) k (enc i v) := ⟨i, v, n, rfl, by rw [h], .inl ⟨rfl, hk⟩⟩
theorem pen_set2 {i v n : Nat} {z : Int} {k : Nat → Prop} (h : z = (n : Int)) (hk : k (enc i n)) : penSet 2 (.int z) k (enc i v) := ⟨i, v, n, rfl, by rw [h], .inr ⟨rfl, hk⟩⟩
theorem take_law (cs : List Int) (d : D) (q : D → Nat → Prop) (m i v : Nat) (h : G1 m__law_take [d] q m) (hi : i ≤ m) : b__law_take cs d (fun a n => ∃ i' v' m', n = enc i' v' ∧ i' ≤ m' ∧ q a m') (enc i v) := by
  have h : m__law_take d q m := h
  unfold m__law_take at h
  obtain ⟨k, rfl, k0, k1, hm, hq⟩ := h
  -- the end: from any state of the pen whose i is at most m + 1
  have fin : ∀ i' v' : Nat, i' ≤ m + 1 → ((op2 dMod (appM (consM (penAt cs 2) nilM) (F1 dInt)) (lift (some (.int (k : Nat))))) fun found10 => ((op2 dFdiv (penAt cs 2) (lift (some (.int (k : Nat))))) fun d => penSet 2 d ((lift (some found10)) (fun a n => ∃ i' v' m', n = enc i' v' ∧ i' ≤ m' ∧ q a m')))) (enc i' v') := fun i' v' hi' => by
    refine pen_at (d := .int v') rfl ?_
    refine ⟨_, rfl, _, rfl, _, dMod_ok (by omega), ?_⟩
    refine pen_at (d := .int v') rfl ?_
    refine ⟨_, rfl, _, dFdiv_ok (by omega) (by omega), ?_⟩
    refine pen_set2 (n := v' / k) (by push_cast; rfl) ?_
    refine ⟨_, rfl, i', v' / k, m + 1, rfl, hi', ?_⟩
    have := hq (v' % k) (Nat.mod_lt _ k0)
    have e : ((v' : Int) % (k : Int)) = ((v' % k : Nat) : Int) := by push_cast; rfl
    rw [e]
    exact this
  show ifK _ _ _ (enc i v)
  refine pen_at (d := .int v) rfl ?_
  refine ⟨_, rfl, _, rfl, _, rfl, ?_⟩
  by_cases hv : (v : Int) < k
  · refine ifk_t (decide_eq_true hv) ?_
    refine pen_at (d := .int i) rfl ?_
    refine ⟨_, rfl, ?_⟩
    -- with a cell, whichever it is
    have key : ∀ c : Int, ((lift (b2 dAdd (some (.int (i : Nat))) (some (.int 1)))) fun d => penSet 1 d ((lift (C2 m__law_spread (some (.int c)) (some (.int (i : Nat))))) fun d => penSet 2 d (((op2 dMod (appM (consM (penAt cs 2) nilM) (F1 dInt)) (lift (some (.int (k : Nat))))) fun found10 => ((op2 dFdiv (penAt cs 2) (lift (some (.int (k : Nat))))) fun d => penSet 2 d ((lift (some found10)) (fun a n => ∃ i' v' m', n = enc i' v' ∧ i' ≤ m' ∧ q a m'))))))) (enc i v) := fun c => by
      obtain ⟨r, hr⟩ := spread_ok c i (by omega)
      refine ⟨_, rfl, ?_⟩
      refine pen_set1 (n := i + 1) (by push_cast; rfl) ?_
      refine ⟨_, hr, ?_⟩
      refine pen_set2 (n := r) rfl ?_
      exact fin (i + 1) r (by omega)
    show ifK _ _ _ (enc i v)
    refine ⟨_, rfl, ?_⟩
    refine pen_at (d := .list (cs.map PyData.int)) rfl ?_
    refine ⟨_, rfl, _, rfl, _, rfl, ?_⟩
    by_cases hlt : (i : Int) < cs.length
    · refine ifk_t (decide_eq_true (by simpa using hlt)) ?_
      refine pen_at (d := .list (cs.map PyData.int)) rfl ?_
      refine ⟨_, rfl, .int (cs[i]'(by omega)), ?_, key _⟩
      rw [dIx_list (by omega) (by simpa using hlt)]
      simp [show i < cs.length by omega]
    · refine ifk_f (decide_eq_false (by simpa using hlt)) ?_
      refine pen_at (d := .list (cs.map PyData.int)) rfl ?_
      refine ⟨_, rfl, _, rfl, _, rfl, _, rfl, ?_⟩
      by_cases hz : 0 < cs.length
      · refine ifk_t (decide_eq_true (by simpa using hz)) ?_
        refine pen_at (d := .list (cs.map PyData.int)) rfl ?_
        have g1 : C1 dInt (b2 dAdd (b2 dMul (some (.int (i : Nat))) (some (.int 5))) (some (.int 3))) = some (.int ((i : Int) * 5 + 3)) := by
          rw [show b2 dMul (some (.int (i : Nat))) (some (.int 5)) = some (.int ((i : Int) * 5)) from dMul_ok (by omega) (by decide)]
          rfl
        refine ⟨_, g1, ?_⟩
        refine pen_at (d := .list (cs.map PyData.int)) rfl ?_
        refine ⟨_, rfl, _, dMod_ok (by simpa using hz), ?_⟩
        have hl : (cs.map PyData.int).length = cs.length := by simp
        have m0 : 0 ≤ ((i : Int) * 5 + 3) % ((cs.map PyData.int).length : Int) := Int.emod_nonneg _ (by omega)
        have m1 : ((i : Int) * 5 + 3) % ((cs.map PyData.int).length : Int) < (cs.map PyData.int).length := Int.emod_lt_of_pos _ (by omega)
        have hg : ∃ c : Int, dIx (.list (cs.map PyData.int)) (.int (((i : Int) * 5 + 3) % ((cs.map PyData.int).length : Int))) = some (.int c) := by
          rw [dIx_list m0 m1]
          refine ⟨cs[(((i : Int) * 5 + 3) % ((cs.map PyData.int).length : Int)).toNat]'(by omega), ?_⟩
          simp [show (((i : Int) * 5 + 3) % ((cs.map PyData.int).length : Int)).toNat < cs.length by omega]
        obtain ⟨c, hc⟩ := hg
        have g2 : b2 dAdd (b2 dPow (some (.int 10)) (some (.int 17))) (some (.int (i : Nat))) = some (.int ((10 : Int) ^ 17 + i)) := by
          rw [show b2 dPow (some (.int 10)) (some (.int 17)) = some (.int ((10 : Int) ^ 17)) from dPow_ok (i := 10) (n := 17) (by decide) (by decide)]
          rfl
        refine ⟨_, hc, _, rfl, _, g2, _, dMod_ok (by omega), key _⟩
      · refine ifk_f (decide_eq_false (by simpa using hz)) ?_
        exact key _
  · refine ifk_f (decide_eq_false hv) ?_
    exact fin i v (by omega)
end Dl

set_option Elab.async false
set_option linter.all false
set_option autoImplicit false
set_option maxRecDepth 100000
set_option maxHeartbeats 1000000
namespace Dl
open PySem L2 PySem.Spec PyProof.Rows

/-! ### list(range(..)), tuple(range(..)) -/
def rgOk (a b : Int) : Bool := decide (-(2 ^ 62) ≤ a ∧ a < 2 ^ 62 ∧ -(2 ^ 62) ≤ b ∧ b < 2 ^ 62 ∧ (b - a).toNat ≤ 2 ^ 24)
theorem rgOk_is {a b : Int} (h : rgOk a b = true) : RgOk a b := by
  unfold rgOk at h
  show -(2 ^ 62) ≤ a ∧ a < 2 ^ 62 ∧ -(2 ^ 62) ≤ b ∧ b < 2 ^ 62 ∧ (b - a).toNat ≤ 2 ^ 24
  exact of_decide_eq_true h
def dRg1 : D → Option (List D)
  | .int n => if rgOk 0 n = true then some (rangeD 0 n) else none
  | _ => none
def dRg2 : D → D → Option (List D)
  | .int a, .int b => if rgOk a b = true then some (rangeD a b) else none
  | _, _ => none
theorem rg_rp {G : Hp} (a b : Int) : RpL G (rgV a b) (rangeD a b) := by
  have e1 : rgV a b = ((List.range (b - a).toNat).map fun (i : Nat) => a + (i : Int)).map V.int := by unfold rgV; rw [List.map_map]; rfl
  have e2 : rangeD a b = ((List.range (b - a).toNat).map fun (i : Nat) => a + (i : Int)).map PyData.int := by unfold rangeD; rw [List.map_map]; rfl
  rw [e1, e2]
  exact RpL.ofInts
section
variable {X : Cx} {R : Res} {ρ : List Cell} {a b : Expr} {pos p p2 pos2 : Pos} {k : Nat}
theorem jl_rg1 {T : M D} (B : Bx X k) (hm : X.mg "list" = none) (hr : X.mg "range" = none) (ha : JM X R ρ a T) (hg : Gl X "list" := by rfl) (hgr : Gl X "range" := by rfl) (na : starEach [a] X.env = (false, eval a X.env) :: starEach [] X.env := by rfl)
    (nb : starEach [.Call (.Name "range" p2) [a] [] pos2] X.env = (false, eval (.Call (.Name "range" p2) [a] [] pos2) X.env) :: starEach [] X.env := by rfl) : JL X R ρ (.Call (.Name "list" p) [.Call (.Name "range" p2) [a] [] pos2] [] pos) (bindM T dRg1) := by
  refine PE.imp (pe_listRg B.hc hg hm (prg_1 hgr hr ha na) nb) fun σ H Q ⟨G, m, q, S, t, k⟩ => ⟨G, m, _, S, t, fun v d G1 H1 m1 S1 g1 r1 q1 => ?_⟩
  obtain ⟨ds, hd, q1⟩ := q1
  cases r1 with
  | int n =>
    simp only [dRg1, Option.ite_none_right_eq_some, Option.some.injEq] at hd
    obtain ⟨hz, rfl⟩ := hd
    refine ⟨n, rfl, rgOk_is hz, fun l hl => ?_⟩
    obtain ⟨g2, s2⟩ := grow_own S1.gh hl (.lst (rgV 0 n))
    obtain ⟨S2, g2'⟩ := S1.growS g2 s2
    exact k l _ _ G1 _ m1 S2 (g1.trans S1.vh g2') (free_of g1 S1.vh hl) (S1.gh.free hl) upd_same (rg_rp 0 n) q1
  | _ => cases hd
theorem jle_rg1 {o : Option D} (B : Bx X k) (hm : X.mg "list" = none) (hr : X.mg "range" = none) (ha : JE X R ρ a o) (hg : Gl X "list" := by rfl) (hgr : Gl X "range" := by rfl) (na : starEach [a] X.env = (false, eval a X.env) :: starEach [] X.env := by rfl)
    (nb : starEach [.Call (.Name "range" p2) [a] [] pos2] X.env = (false, eval (.Call (.Name "range" p2) [a] [] pos2) X.env) :: starEach [] X.env := by rfl) : JLE X R ρ (.Call (.Name "list" p) [.Call (.Name "range" p2) [a] [] pos2] [] pos) (C1 dRg1 o) := (jl_rg1 B hm hr ha hg hgr na nb).imp fun _ _ => lift1
theorem jl_rg2 {T T2 : M D} (B : Bx X k) (hm : X.mg "list" = none) (hr : X.mg "range" = none) (ha : JM X R ρ a T) (hb : JM X R ρ b T2) (hg : Gl X "list" := by rfl) (hgr : Gl X "range" := by rfl) (na : starEach [a, b] X.env = (false, eval a X.env) :: starEach [b] X.env := by rfl)
    (na2 : starEach [b] X.env = (false, eval b X.env) :: starEach [] X.env := by rfl) (hp : (backTo pos2 (starEach [b] X.env)).any (·.1) = false := by rfl)
    (nb : starEach [.Call (.Name "range" p2) [a, b] [] pos2] X.env = (false, eval (.Call (.Name "range" p2) [a, b] [] pos2) X.env) :: starEach [] X.env := by rfl) : JL X R ρ (.Call (.Name "list" p) [.Call (.Name "range" p2) [a, b] [] pos2] [] pos) (fun q => T fun x => T2 fun y m => lift (dRg2 x y) q m) := by
  refine PE.imp (pe_listRg B.hc hg hm (prg_2 hgr hr ha hb na na2 hp) nb) fun σ H Q ⟨G, m, q, S, t, k⟩ => ⟨G, m, _, S, t, fun v d G1 H1 m1 S1 g1 r1 q1 => ⟨G1, m1, _, S1, q1, fun w e G2 H2 m2 S2 g2 r2 q2 => ?_⟩⟩
  obtain ⟨ds, hd, q2⟩ := q2
  cases r1 with
  | int i =>
    cases r2 with
    | int j =>
      simp only [dRg2, Option.ite_none_right_eq_some, Option.some.injEq] at hd
      obtain ⟨hz, rfl⟩ := hd
      refine ⟨i, j, rfl, rfl, rgOk_is hz, fun l hl => ?_⟩
      obtain ⟨g3, s3⟩ := grow_own S2.gh hl (.lst (rgV i j))
      obtain ⟨S3, g3'⟩ := S2.growS g3 s3
      have g := g1.trans S1.vh g2
      exact k l _ _ G2 _ m2 S3 (g.trans S2.vh g3') (free_of g S2.vh hl) (S2.gh.free hl) upd_same (rg_rp i j) q2
    | _ => cases hd
  | _ => cases hd
theorem jle_rg2 {o o2 : Option D} (B : Bx X k) (hm : X.mg "list" = none) (hr : X.mg "range" = none) (ha : JE X R ρ a o) (hb : JE X R ρ b o2) (hg : Gl X "list" := by rfl) (hgr : Gl X "range" := by rfl) (na : starEach [a, b] X.env = (false, eval a X.env) :: starEach [b] X.env := by rfl)
    (na2 : starEach [b] X.env = (false, eval b X.env) :: starEach [] X.env := by rfl) (hp : (backTo pos2 (starEach [b] X.env)).any (·.1) = false := by rfl)
    (nb : starEach [.Call (.Name "range" p2) [a, b] [] pos2] X.env = (false, eval (.Call (.Name "range" p2) [a, b] [] pos2) X.env) :: starEach [] X.env := by rfl) : JLE X R ρ (.Call (.Name "list" p) [.Call (.Name "range" p2) [a, b] [] pos2] [] pos) (C2 dRg2 o o2) := (jl_rg2 B hm hr ha hb hg hgr na na2 hp nb).imp fun q m h => by
  obtain ⟨x, h1, h2⟩ := lift1 h
  obtain ⟨y, h3, h4⟩ := lift1 h2
  exact ⟨x, h1, y, h3, h4⟩
theorem jm_tg1 {T : M D} (B : Bx X k) (hm : X.mg "tuple" = none) (hr : X.mg "range" = none) (ha : JM X R ρ a T) (hg : Gl X "tuple" := by rfl) (hgr : Gl X "range" := by rfl) (na : starEach [a] X.env = (false, eval a X.env) :: starEach [] X.env := by rfl)
    (nb : starEach [.Call (.Name "range" p2) [a] [] pos2] X.env = (false, eval (.Call (.Name "range" p2) [a] [] pos2) X.env) :: starEach [] X.env := by rfl) : JM X R ρ (.Call (.Name "tuple" p) [.Call (.Name "range" p2) [a] [] pos2] [] pos) (bindM T fun d => (dRg1 d).map PyData.tuple) := by
  refine PE.imp (pe_tupRgF B.hc hg hm (prg_1 hgr hr ha na) nb) fun σ H Q ⟨G, m, q, S, t, k⟩ => ⟨G, m, _, S, t, fun v d G1 H1 m1 S1 g1 r1 q1 => ?_⟩
  obtain ⟨z, hd, q1⟩ := q1
  cases r1 with
  | int n =>
    obtain ⟨ds, hd2, hz2⟩ := Option.map_eq_some_iff.mp (show (dRg1 (.int n)).map PyData.tuple = some z from hd)
    clear hd
    subst hz2
    have hd := hd2
    simp only [dRg1, Option.ite_none_right_eq_some, Option.some.injEq] at hd
    obtain ⟨hz, e⟩ := hd
    subst e
    refine ⟨n, rfl, rgOk_is hz, fun l o ho hl => ?_⟩
    obtain ⟨g2, s2⟩ := grow_new S1.gh hl (.frz o (.tup (rgV 0 n)))
    obtain ⟨S2, g2'⟩ := S1.growS g2 s2
    exact k _ _ _ _ m1 S2 (g1.trans S1.vh g2') (.tup (Tu.new ho) (rg_rp 0 n)) q1
  | _ =>
    obtain ⟨ds, hd2, _⟩ := Option.map_eq_some_iff.mp hd
    cases hd2
theorem je_tg1 {o : Option D} (B : Bx X k) (hm : X.mg "tuple" = none) (hr : X.mg "range" = none) (ha : JE X R ρ a o) (hg : Gl X "tuple" := by rfl) (hgr : Gl X "range" := by rfl) (na : starEach [a] X.env = (false, eval a X.env) :: starEach [] X.env := by rfl)
    (nb : starEach [.Call (.Name "range" p2) [a] [] pos2] X.env = (false, eval (.Call (.Name "range" p2) [a] [] pos2) X.env) :: starEach [] X.env := by rfl) : JE X R ρ (.Call (.Name "tuple" p) [.Call (.Name "range" p2) [a] [] pos2] [] pos) (C1 (fun d => (dRg1 d).map PyData.tuple) o) := (jm_tg1 B hm hr ha hg hgr na nb).imp fun _ _ => lift1
end
end Dl

set_option Elab.async false
set_option linter.all false
set_option autoImplicit false
set_option maxRecDepth 100000
set_option maxHeartbeats 1000000
namespace Dl
open PySem L2 PySem.Spec PyProof.Rows
open PySem.W (AlikeAll maxD minD maxD_ints minD_ints max_list_data max_tuple_data min_list_data min_tuple_data alike)

/-! ### max(xs), min(xs) of ints in a list or a tuple -/
theorem alike_ints (n : Int) (ns : List Int) : AlikeAll (.int n :: ns.map PyData.int) := by
  have key : ∀ x ∈ (PyData.int n :: ns.map PyData.int), ∃ i, x = .int i := by
    intro x hx
    rcases List.mem_cons.mp hx with rfl | hx
    · exact ⟨_, rfl⟩
    · obtain ⟨i, _, rfl⟩ := List.mem_map.mp hx
      exact ⟨i, rfl⟩
  refine ⟨fun x hx y hy => ?_, fun x hx => ?_⟩
  · obtain ⟨i, rfl⟩ := key x hx
    obtain ⟨j, rfl⟩ := key y hy
    rfl
  · obtain ⟨i, rfl⟩ := key x hx
    exact fun z => nomatch z
theorem reads_ints {h : Heap} : ∀ {ns : List Int} {us : List Value}, Vals (ns.map V.int) us → ∃ as, ReadsAll h us (ns.map PyData.int) as
  | [], _, .nil => ⟨_, .nil⟩
  | n :: ns, _, .cons r rs => by
    obtain ⟨as, q⟩ := reads_ints rs
    obtain ⟨t, rfl⟩ := r
    exact ⟨_, .cons (.int _ _) q⟩
def rBest (K : PySem.W.Frag) (f : Int → Int → Int) : List V → Hp → VK → Prop := fun vs H Q => ∃ (a : Addr) (n : Int) (ns : List Int), vs = [V.ref a] ∧ (SqL K H a ((n :: ns).map V.int) ∨ SqT K H a ((n :: ns).map V.int)) ∧ Q (.int (ns.foldl f n)) H
theorem depth_all_ints (n : Int) (ns : List Int) : PyData.depthAll (.int n :: ns.map PyData.int) = 0 := PySem.W.depth_ints (n :: ns)
theorem cr_maxA {X : Cx} (hc : X.calm = true) (hu : X.A.units + 64 < cLine) : CallR X (.builtin "max") (rBest X.K max) := by
  intro pins s σ H vs us Q I r h
  obtain ⟨a, n, ns, rfl, hs, q⟩ := h
  rw [Vals.ref1 r]
  have fin : ∀ (v : Value) (h' : Heap) (tk : Nat) (bs : List Addr), Reads h' v (maxD (.int n) (ns.map PyData.int)) bs → (∀ b o, s.heap.get? b = some o → h'.get? b = some o) → EP X pins σ Q v { s with heap := h', toks := tk } := fun v h' tk bs rd hk => by
    rw [maxD_ints] at rd
    cases rd
    exact ⟨.int _, H, I.kept hk, ⟨_, rfl⟩, q⟩
  rcases hs with hs | hs
  · obtain ⟨its, rv, hl, _⟩ := I.list hs
    obtain ⟨as, rd⟩ := reads_ints (h := s.heap) rv
    exact max_list_data (I.ok.hd hc) hl.isList (vs := its.toArray) (x := .int n) (xs := ns.map PyData.int) rd (alike_ints n ns) (by rw [depth_all_ints]; omega) fun i v h' tk bs _ rd hk => fin v h' tk bs rd hk
  · obtain ⟨its, rv, hl, _⟩ := I.tuple hs
    obtain ⟨as, rd⟩ := reads_ints (h := s.heap) rv
    exact max_tuple_data (I.ok.hd hc) (show s.heap.IsTuple a its.toArray from hl) (x := .int n) (xs := ns.map PyData.int) rd (alike_ints n ns) (by rw [depth_all_ints]; omega) fun i v h' tk bs _ rd hk => fin v h' tk bs rd hk
theorem cr_minA {X : Cx} (hc : X.calm = true) (hu : X.A.units + 64 < cLine) : CallR X (.builtin "min") (rBest X.K min) := by
  intro pins s σ H vs us Q I r h
  obtain ⟨a, n, ns, rfl, hs, q⟩ := h
  rw [Vals.ref1 r]
  have fin : ∀ (v : Value) (h' : Heap) (tk : Nat) (bs : List Addr), Reads h' v (minD (.int n) (ns.map PyData.int)) bs → (∀ b o, s.heap.get? b = some o → h'.get? b = some o) → EP X pins σ Q v { s with heap := h', toks := tk } := fun v h' tk bs rd hk => by
    rw [minD_ints] at rd
    cases rd
    exact ⟨.int _, H, I.kept hk, ⟨_, rfl⟩, q⟩
  rcases hs with hs | hs
  · obtain ⟨its, rv, hl, _⟩ := I.list hs
    obtain ⟨as, rd⟩ := reads_ints (h := s.heap) rv
    exact min_list_data (I.ok.hd hc) hl.isList (vs := its.toArray) (x := .int n) (xs := ns.map PyData.int) rd (alike_ints n ns) (by rw [depth_all_ints]; omega) fun i v h' tk bs _ rd hk => fin v h' tk bs rd hk
  · obtain ⟨its, rv, hl, _⟩ := I.tuple hs
    obtain ⟨as, rd⟩ := reads_ints (h := s.heap) rv
    exact min_tuple_data (I.ok.hd hc) (show s.heap.IsTuple a its.toArray from hl) (x := .int n) (xs := ns.map PyData.int) rd (alike_ints n ns) (by rw [depth_all_ints]; omega) fun i v h' tk bs _ rd hk => fin v h' tk bs rd hk
def dBest (f : Int → Int → Int) (d : D) : Option D := (dItems d).bind fun xs => match intsOf xs with
  | some (n :: ns) => some (.int (ns.foldl f n))
  | _ => none
theorem cd_best {K : PySem.W.Frag} {f : Int → Int → Int} : CallD (rBest K f) (F1 (dBest f)) := by
  intro G H vs ds z Q gh r hF k
  cases r with
  | nil => cases hF
  | cons a b =>
    cases b with
    | cons _ _ => cases hF
    | nil =>
      have hF : dBest f _ = some z := hF
      have key : ∀ {ds : List D} {vs : List V}, RpL G vs ds → (match intsOf ds with | some (n :: ns) => some (PyData.int (ns.foldl f n)) | _ => none) = some z → ∃ n ns, vs = ((n :: ns).map V.int) ∧ z = .int (ns.foldl f n) := fun {ds vs} r h => by
        split at h
        · rename_i n ns e
          cases h
          have e' := intsOf_eq e
          subst e'
          exact ⟨n, ns, RpL.ints (ns := n :: ns) r, rfl⟩
        · cases h
      cases a with
      | @lst p vs ds hp r =>
        obtain ⟨n, ns, e, rfl⟩ := key r hF
        subst e
        exact ⟨p, n, ns, rfl, .inl (SqL.of (gh _ _ hp)), k _ G H (Grow.refl _ _ _) gh (.int _)⟩
      | @tup p vs ds hp r =>
        obtain ⟨n, ns, e, rfl⟩ := key r hF
        subst e
        exact ⟨p, n, ns, rfl, .inr (hp.sqm gh), k _ G H (Grow.refl _ _ _) gh (.int _)⟩
      | _ => cases hF

/-! ### sorted(xs) of alike data -/
def srtOk (ds : List D) : Bool := (ds.all fun d => ds.all fun e => alike d e) && ((ds.all fun d => match d with | .tuple (_ :: _) => true | _ => false) || (ds.all fun d => match d with | .none => false | .tuple _ => false | _ => true)) && decide (ds.length ≤ sizeLine) && (ds.all fun d => decide (d.depth ≤ 62))
def srtD (ds : List D) : List D := ds.mergeSort (PySem.W.dataLe false id)
def dSorted : D → Option (List D)
  | .list ds => if srtOk ds = true then some (srtD ds) else none
  | _ => none
theorem each_zip {h : Heap} : ∀ {xs : List V} {us : List Value} {ds : List D} {as : List Addr}, Vals xs us → ReadsAll h us ds as → PySem.W.EachIs (fun v (b : V × D) => RelV b.1 v) us (xs.zip ds) ∧ PySem.W.EachIs (fun v (b : V × D) => ∃ as, Reads h v b.2 as) us (xs.zip ds)
  | _, _, _, _, .nil, .nil => ⟨.nil, .nil⟩
  | _, _, _, _, .cons r rs, .cons q qs => ⟨.cons r (each_zip rs qs).1, .cons ⟨_, q⟩ (each_zip rs qs).2⟩
theorem each_vals : ∀ {bs : List (V × D)} {us : List Value}, PySem.W.EachIs (fun v (b : V × D) => RelV b.1 v) us bs → Vals (bs.map Prod.fst) us
  | [], _, .nil => .nil
  | _ :: _, _, .cons r rs => .cons r (each_vals rs)
def rSortedD (K : PySem.W.Frag) : List V → Hp → VK → Prop := fun vs H Q => ∃ (a : Addr) (xs : List V) (ds : List D), vs = [V.ref a] ∧ SqL K H a xs ∧ RpL H xs ds ∧ srtOk ds = true ∧ ∀ p, H p = none → Q (.ref p) (upd H p (.lst (((xs.zip ds).mergeSort (PySem.W.dataLe false Prod.snd)).map Prod.fst)))
theorem cr_sortedD {X : Cx} (hu : X.A.units + 64 < cLine) : CallR X (.builtin "sorted") (rSortedD X.K) := by
  intro pins s σ H vs us Q I r h
  obtain ⟨a, xs, ds, rfl, hs, hd, ok, q⟩ := h
  obtain ⟨its, rv, hl, hz⟩ := I.list hs
  rw [Vals.ref1 r]
  obtain ⟨as, rd⟩ := RpL.reads I hd rv
  obtain ⟨e1, e2⟩ := each_zip rv rd
  have hlen : xs.length = ds.length := by
    have h1 := rv.length
    have h2 := SeqAt.ReadsAll.length ds its as rd
    omega
  have hmap : (xs.zip ds).map Prod.snd = ds := List.map_snd_zip (by omega)
  simp only [srtOk, Bool.and_eq_true, Bool.or_eq_true, List.all_eq_true, decide_eq_true_eq] at ok
  obtain ⟨⟨⟨o1, o2⟩, o3⟩, o4⟩ := ok
  refine PySem.W.sorted_data (R := fun v (b : V × D) => RelV b.1 v) (enc := Prod.snd) (vs := its) hl.isList e1 e2 ?_ ?_ ?_ ?_ fun out hlo eo => ?_
  · rw [hmap]
    exact fun d hd e he => o1 d hd e he
  · rw [hmap]
    rcases o2 with o | o
    · refine .inl fun d hd => ?_
      have := o d hd
      split at this
      · exact ⟨_, _, rfl⟩
      · cases this
    · refine .inr fun d hd => ?_
      have := o d hd
      split at this
      · cases this
      · cases this
      · rename_i n1 n2
        exact ⟨n1, n2⟩
  · rw [List.length_zip]; omega
  · intro b hb
    have hb2 : b.2 ∈ ds := by
      rw [← hmap]
      exact List.mem_map_of_mem hb
    have := o4 b.2 hb2
    omega
  · obtain ⟨ep, he'⟩ := PyProof.Rows.sortedAll_at s.heap its out.toArray
    have hv := each_vals eo
    have hl2 : (((xs.zip ds).mergeSort (PySem.W.dataLe false Prod.snd)).map Prod.fst).length ≤ sizeLine := by
      rw [List.length_map, List.length_mergeSort, List.length_zip]; omega
    exact ⟨.ref _, upd H (s.heap.objs.size + 1) (.lst _), I.laid (t' := s.toks) (fun _ _ => PyProof.Rows.sortedAll_old) (Nat.le_succ _) ⟨hl2, out, ep, hv, he'⟩, rfl, q _ (I.hok.fresh (Nat.le_succ _))⟩
theorem zip_rp {G : Hp} : ∀ {xs : List V} {ds : List D}, RpL G xs ds → ∀ b ∈ xs.zip ds, Rp G b.1 b.2
  | _, _, .nil, b, h => by simp at h
  | _, _, .cons r rs, b, h => by
    rcases List.mem_cons.mp h with rfl | h
    · exact r
    · exact zip_rp rs b h
theorem rp_unzip {G : Hp} : ∀ {bs : List (V × D)}, (∀ b ∈ bs, Rp G b.1 b.2) → RpL G (bs.map Prod.fst) (bs.map Prod.snd)
  | [], _ => .nil
  | b :: bs, h => .cons (h b List.mem_cons_self) (rp_unzip fun c hc => h c (List.mem_cons_of_mem _ hc))
theorem cd_sortedD {K : PySem.W.Frag} : CallDL (rSortedD K) (F1 dSorted) := by
  intro G H vs ds z Q gh r hF k
  cases r with
  | nil => cases hF
  | cons a b =>
    cases b with
    | cons _ _ => cases hF
    | nil =>
      cases a with
      | @lst p xs ds hp r =>
        have hF : (if srtOk ds = true then some (srtD ds) else none) = some z := hF
        by_cases ok : srtOk ds = true
        · rw [if_pos ok] at hF
          cases hF
          refine ⟨p, xs, ds, rfl, SqL.of (gh _ _ hp), (r.mono gh), ok, fun l hl => ?_⟩
          obtain ⟨g, s⟩ := grow_own gh hl (.lst (((xs.zip ds).mergeSort (PySem.W.dataLe false Prod.snd)).map Prod.fst))
          refine k l _ G _ g s hl (gh.free hl) upd_same ?_
          have e : srtD ds = ((xs.zip ds).mergeSort (PySem.W.dataLe false Prod.snd)).map Prod.snd := by
            unfold srtD
            have e1 := List.map_mergeSort (f := Prod.snd) (r := PySem.W.dataLe false (Prod.snd : V × D → D)) (s := PySem.W.dataLe false id) (l := xs.zip ds) (fun a _ b _ => rfl)
            rw [List.map_snd_zip (by rw [r.length]; exact Nat.le_refl _)] at e1
            exact e1.symm
          rw [e]
          exact rp_unzip fun b hb => zip_rp r b ((List.mergeSort_perm _ _).mem_iff.mp hb)
        · rw [if_neg ok] at hF; cases hF
      | _ => cases hF
end Dl

set_option Elab.async false
set_option linter.all false
set_option autoImplicit false
set_option maxRecDepth 100000
set_option maxHeartbeats 1000000
namespace Dl
open PySem L2

/-! ### xs * n -/
def dRep : D → D → Option D
  | .list xs, .int k => if decide (-(2 ^ 63) ≤ k ∧ k < 2 ^ 63 ∧ xs.length * k.toNat ≤ sizeLine) = true then some (.list (List.replicate k.toNat xs).flatten) else none
  | .tuple xs, .int k => if decide (xs ≠ [] ∧ 1 ≤ k ∧ k ≤ 1000 ∧ xs.length ≤ 1000) = true then some (.tuple (List.replicate k.toNat xs).flatten) else none
  | _, _ => none
theorem rep_rp {G : Hp} {vs : List V} {ds : List D} (r : RpL G vs ds) : ∀ n : Nat, RpL G (List.replicate n vs).flatten (List.replicate n ds).flatten
  | 0 => .nil
  | n + 1 => by
    rw [List.replicate_succ, List.replicate_succ, List.flatten_cons, List.flatten_cons]
    exact r.append (rep_rp r n)
section
open PySem.Spec PyProof.Rows
/-- t * 1 is t -/
theorem tuple_mul1 (l : Addr) (items : Array Value) (n : Nat) (dd : Option Addr) (sl : Array (Option Value)) (u : Tok) :
    Meets (Builtin.«tuple.__mul__» ⟨[.ref l, .int 1 u], []⟩) (fun _ R s => s.heap.get? l = some { cls := .type "tuple", dict := dd, data := .seq items n, slots := sl } ∧ R (.ok (.ret (Value.ref l))) s) :=
  .of_wp fun prog w A R s h => by
    obtain ⟨hp, g, d, tk, os⟩ := s
    obtain ⟨hl, h⟩ := h
    have f1 := AutoSeq1.idx_int
    have c0 : (decide ((1 : Int) < -(2 ^ 63)) || decide ((1 : Int) ≥ 2 ^ 63)) = false := by decide
    have c1 : (items.isEmpty || (1 : Int) == 1) = true := by simp
    wp_walk using wpAny_loadPart' hl
    repeat (first
      | (refine wpAny_ite_false (decide_eq_false (by rw [c0]; exact Bool.false_ne_true)) ?_; wp_walk using wpAny_loadPart' hl)
      | (refine wpAny_ite_true (decide_eq_true c1) ?_; wp_walk using wpAny_loadPart' hl))
    exact ⟨_, rfl, h⟩
def rRep1 (K : PySem.W.Frag) : R2 := fun x y H Q => ∃ l xs, x = .ref l ∧ y = .int 1 ∧ SqT K H l xs ∧ Q (.ref l) H
theorem op_rep1 {X : Cx} : OpR X (binaryOp .Mult) (rRep1 X.K) := by
  intro pins s σ H x y v u Q I rx ry h
  obtain ⟨l, xs, rfl, rfl, hT, q⟩ := h
  cases rx
  obtain ⟨t, rfl⟩ := ry
  obtain ⟨its, r, ⟨⟨cls, dd, data, sl⟩, ho, hc, n, hd⟩, hs⟩ := I.tuple hT
  simp only at hc hd
  subst hc hd
  exact wpAny_binaryOp_repeat_ref (T := "tuple") (U := "int") (by decide) ⟨_, ho, rfl⟩ (fun s' => typeIs_int s' 1 t) noFill_tuple_mul F.fills_int_mul F.slot_int_rmul repeat_tuple F.slot_int_index.lookup
    (call_meets F.slot_int_rmul (typeIs_int s 1 t) F.entry_int_rmul (F.args_int_rmul_2 _ _) (int_rmul_tuple 1 t l its.toArray n dd sl)
      ⟨ho, rfl, ⟨_, ho, rfl⟩, call_meets F.slot_tuple_mul ⟨_, ho, rfl⟩ F.entry_tuple_mul (F.args_tuple_mul_2 _ _) (tuple_mul1 l its.toArray n dd sl t) ⟨ho, ⟨.ref l, H, I, rfl, q⟩⟩⟩)
end
abbrev rRepA (K : PySem.W.Frag) : R2 := fun x y H Q => rRep x y H Q ∨ rRepF K x y H Q ∨ rRep1 K x y H Q
theorem or_rep {X : Cx} : OpR X (binaryOp .Mult) (rRepA X.K) := op_rep.or (op_repF.or op_rep1)
theorem od_rep {K : PySem.W.Frag} : OpD (rRepA K) dRep := by
  intro G H x y d e z Q gh rx ry hf k
  cases rx with
  | @lst p vs ds hp r =>
    cases ry with
    | int n =>
      simp only [dRep, Option.ite_none_right_eq_some, Option.some.injEq, decide_eq_true_eq] at hf
      obtain ⟨⟨h1, h2, h3⟩, rfl⟩ := hf
      refine .inl ⟨p, n, vs, rfl, rfl, gh _ _ hp, h1, h2, by rw [r.length]; exact h3, fun q hq => ?_⟩
      obtain ⟨g, s⟩ := grow_new gh hq (.lst (List.replicate n.toNat vs).flatten)
      exact k _ _ _ g s (.lst upd_same ((rep_rp r _).mono g.gg))
    | _ => cases hf
  | @tup p vs ds hp r =>
    cases ry with
    | int n =>
      simp only [dRep, Option.ite_none_right_eq_some, Option.some.injEq, decide_eq_true_eq] at hf
      obtain ⟨⟨h0, h1, h2, h3⟩, rfl⟩ := hf
      have rl := r.length
      by_cases one : n = 1
      · subst one
        refine .inr (.inr ⟨p, vs, rfl, rfl, (hp.sqm gh), ?_⟩)
        refine k _ G H (Grow.refl _ _ _) gh ?_
        have e : (List.replicate (1 : Int).toNat ds).flatten = ds := by simp
        rw [e]
        exact .tup hp r
      refine .inr (.inl ⟨p, n, vs, rfl, rfl, (hp.sqm gh), fun e => ?_, by omega, h2, by rw [rl]; exact h3, fun q o ho hq => ?_⟩)
      · subst e
        cases ds with
        | nil => exact h0 rfl
        | cons _ _ => cases rl
      obtain ⟨g, s⟩ := grow_new gh hq (.frz o (.tup (List.replicate n.toNat vs).flatten))
      exact k _ _ _ g s (.tup (Tu.new ho) ((rep_rp r _).mono g.gg))
    | _ => cases hf
  | _ => cases hf

/-! ### v.append(w.pop(e)) -/
section
variable {α : Type} {X : Cx} {R : Res} {rk : RK α} {ρ : List Cell} {rest : List Stmt} {κ : Kt} {q : α → Nat → Prop} {e : Expr} {pos p1 p2 p3 p4 p5 p6 : Pos} {x y : Str} {ds es : List D}
def popK (T : M D) (ds es : List D) (k : List D → List D → Nat → Prop) : Nat → Prop := T fun z m => ∃ n j d, z = .int n ∧ -(2 ^ 63) ≤ n ∧ n < 2 ^ 63 ∧ ixN es.length n = some j ∧ es[j]? = some d ∧ ds.length < sizeLine ∧ k (ds ++ [d]) (es.eraseIdx j) m
theorem jk_appPop {T : M D} (i j : Nat) {k : List D → List D → Nat → Prop} (he : JM X R ρ e T) (hr : ∀ ds es, JK X R rk ((ρ.set j (.own es)).set i (.own ds)) rest κ q (k ds es)) (hij : i ≠ j := by decide) (hρ : ρ[i]? = some (.own ds) := by rfl) (hρ2 : ρ[j]? = some (.own es) := by rfl) (hN : X.N[i]? = some x := by rfl) (hN2 : X.N[j]? = some y := by rfl)
    (hv : Vis X.env.scope x := by first | exact Or.inl rfl | exact Or.inr (Or.inl rfl) | exact Or.inr (Or.inr rfl)) (hd : (x == ("__debug__" : Str)) = false := by decide) (hcd : (x == ("__classdict__" : Str)) = false := by decide)
    (hv2 : Vis X.env.scope y := by first | exact Or.inl rfl | exact Or.inr (Or.inl rfl) | exact Or.inr (Or.inr rfl)) (hd2 : (y == ("__debug__" : Str)) = false := by decide) (hcd2 : (y == ("__classdict__" : Str)) = false := by decide)
    (hs : swapsWith (.Call (.Attribute (.Name x p1) "append" p2) [.Call (.Attribute (.Name y p4) "pop" p5) [e] [] p6] [] p3) none pos.line X.env = pure false := by rfl) (hbase : attributeBase (.Name x p1) "append" X.env (eval (.Name x p1) X.env) = eval (.Name x p1) X.env := by rfl)
    (hfew : ((backTo p3 (starEach (.Call (.Attribute (.Name y p4) "pop" p5) [e] [] p6 :: []) X.env)).all (fun x => !x.1) && (backToKw p3 (keywordEach [] X.env)).all (fun x => x.1.isSome) && decide ((.Call (.Attribute (.Name y p4) "pop" p5) [e] [] p6 :: ([] : List Expr)).length + ([] : List Keyword).length + (if ([] : List Keyword).isEmpty then 0 else 1) < 30)) = true := by rfl)
    (hline : (p2.endLine == p3.line) = true := by rfl) (hst : starEach (.Call (.Attribute (.Name y p4) "pop" p5) [e] [] p6 :: []) X.env = (false, eval (.Call (.Attribute (.Name y p4) "pop" p5) [e] [] p6) X.env) :: starEach [] X.env := by rfl) (hpl : (backTo p3 (starEach [] X.env)).any (·.1) = false := by rfl)
    (hbase2 : attributeBase (.Name y p4) "pop" X.env (eval (.Name y p4) X.env) = eval (.Name y p4) X.env := by rfl)
    (hfew2 : ((backTo p6 (starEach (e :: []) X.env)).all (fun x => !x.1) && (backToKw p6 (keywordEach [] X.env)).all (fun x => x.1.isSome) && decide ((e :: ([] : List Expr)).length + ([] : List Keyword).length + (if ([] : List Keyword).isEmpty then 0 else 1) < 30)) = true := by rfl)
    (hline2 : (p5.endLine == p6.line) = true := by rfl) (hst2 : starEach (e :: []) X.env = (false, eval e X.env) :: starEach [] X.env := by rfl) (hpl2 : (backTo p6 (starEach [] X.env)).any (·.1) = false := by rfl) :
    JK X R rk ρ (.Expr (.Call (.Attribute (.Name x p1) "append" p2) [.Call (.Attribute (.Name y p4) "pop" p5) [e] [] p6] [] p3) pos :: rest) κ q (popK T ds es k) :=
  PSs.imp (pss_cons (ps_expr (pe_bm PySem.F.plainAttrs_list PySem.F.slot_list_append PySem.F.type_list_append mt_append (pe_var (i := i) hN hv hd hcd) (pa_cons (pe_bm PySem.F.plainAttrs_list PySem.F.slot_list_pop PySem.F.type_list_pop mt_popAt (pe_var (i := j) hN2 hv2 hd2 hcd2) (pa_cons he pa_nil hst2) hbase2 hfew2 hline2 hst2 hpl2) pa_nil hst) hbase hfew hline hst hpl) hs) (pss_any fun z : List D × List D => hr z.1 z.2)) fun Dn σ H ⟨Gb, G, m, S, g, t, ls⟩ => by
    obtain ⟨l, vs, e1, gl, nv, en, hl, rv⟩ := S.ownT hρ
    obtain ⟨l2, ws, e2, gl2, nv2, en2, hl2, rw2⟩ := S.ownT hρ2
    refine ⟨.ref l, e1, .inl ⟨rfl, _, .inl (.inl hl)⟩, .ref l2, e2, .inl ⟨rfl, _, .inl (.inl hl2)⟩, G, m, _, S, t, fun v d G1 H1 m1 S1 g1 r1 q1 => ?_⟩
    obtain ⟨n, jj, d, rfl, n1, n2, hj, hdj, hz, q1⟩ := q1
    cases r1
    have h2 := g1.hh l2 _ nv2 hl2
    have rw3 := rw2.mono g1.gg
    have h1 := g1.hh l _ nv hl
    have rv1 := rv.mono g1.gg
    obtain ⟨u, hu, ru⟩ := rw3.get hdj
    have ne : l ≠ l2 := fun z => hij (S.apart i j ds es l hρ hρ2 e1 (by rw [e2, z]))
    have hj2 : ixN ws.length n = some jj := by rw [rw2.length]; exact hj
    obtain ⟨S2, gg2⟩ := S1.write (vs := ws.eraseIdx jj) hρ2 e2 (rw3.eraseIdx jj)
    have hρ' : (ρ.set j (.own (es.eraseIdx jj)))[i]? = some (.own ds) := by rw [List.getElem?_set_ne (Ne.symm hij)]; exact hρ
    obtain ⟨S3, gg3⟩ := S2.write (vs := vs ++ [u]) hρ' e1 (rv1.append (.cons ru .nil))
    refine ⟨l2, ws, n, jj, u, rfl, rfl, h2, n1, n2, (ixN_seq hj2).1, hu, l, vs, u, rfl, rfl, by rw [upd_ne ne]; exact h1, by rw [rv.length]; exact hz, (ds ++ [d], es.eraseIdx jj), Gb, G1, m1, S3, gg3 en (gg2 en2 (S.tr g g1)), q1, ls.sm g1.gg⟩
end
end Dl

set_option Elab.async false
set_option linter.all false
set_option autoImplicit false
set_option maxRecDepth 100000
set_option maxHeartbeats 1000000
namespace Dl
open PySem L2 PySem.Spec PyProof.Rows

/-! ### repr of any datum -/
section
variable {X : Cx} {pins : List (Addr × Obj)} {σ : L2.St} {H : Hp} {s : Shared}
theorem dic_raw (I : L2.Inv X pins σ H s) {p : Addr} (hp : H p = some (.dK [])) : ∃ o es n, s.heap.get? p = some o ∧ o.cls = .type "dict" ∧ o.data = .dict es n ∧ es.toList = [] ∧ (p == sysModules) = false := by
  obtain ⟨_, lo, vs, rv, o, es, ep, ho, hx, hd, _, he, _⟩ := I.hok p _ hp
  cases rv
  refine ⟨o, es, ep, ho, hx.1, hd, ?_, lo⟩
  generalize es.toList = l at he
  cases he
  rfl
mutual
theorem Rp.rk (I : L2.Inv X pins σ H s) : ∀ {d : D} {v : V} {u : Value}, Rp H v d → RelV v u → d.showable = true → d.shown.length ≤ sizeLine → ∃ bs, ReadAtMost s.heap d.depth bs ∧ ReprK X.prog X.w bs s.heap d.depth u d.shown
  | .none, _, _, h, r, _, _ => by cases h; cases r; exact ⟨[], nofun, by simp only [PyData.shown]; exact .of_is .none _ _ _⟩
  | .bool b, _, _, h, r, _, _ => by cases h; cases r; exact ⟨[], nofun, by simp only [PyData.shown]; exact .of_is (.bool b) _ _ _⟩
  | .int i, _, _, h, r, hs, _ => by
    cases h
    obtain ⟨t, rfl⟩ := r
    exact ⟨[], nofun, by simp only [PyData.shown]; exact .of_is (.int t (by simpa [PyData.showable] using hs)) _ _ _⟩
  | .str z, _, _, h, r, _, hz => by
    cases h
    obtain ⟨t, rfl⟩ := r
    exact ⟨[], nofun, by simp only [PyData.shown]; exact .of_is (.str z t (by simpa only [PyData.shown] using hz)) _ _ _⟩
  | .list ds, v, u, h, r, hs, hz => by
    obtain ⟨_, whole⟩ := Rp.reads I h r
    cases h with
    | @lst p vs _ hp q =>
      cases r
      obtain ⟨_, its, n, rv, ho⟩ := I.hok p _ hp
      have hz : (listText (PyData.shownAll ds)).length ≤ sizeLine := by simpa only [PyData.shown] using hz
      obtain ⟨bs, b1, b2⟩ := RpL.rk I q rv (by simpa [PyData.showable] using hs) fun t ht => Nat.le_trans (listText_mem_le ht) hz
      have out : p ∉ bs := not_mem_of_deeper whole (by simp only [PyData.depth]; omega) b1
      refine ⟨p :: bs, ReadAtMost.cons whole (by simp only [PyData.depth]; omega) b1, ?_⟩
      simp only [PyData.depth, PyData.shown]
      cases its with
      | nil =>
        cases rv
        cases q
        simp only [PyData.shownAll, listText_nil]
        exact .listEmpty ho rfl rfl
      | cons x l => exact .list ho rfl rfl out (by simpa using b2.length_eq) fun i y e => b2.item i y (by simpa using e)
  | .tuple ds, v, u, h, r, hs, hz => by
    obtain ⟨_, whole⟩ := Rp.reads I h r
    cases h with
    | @tup p vs _ hp q =>
      cases r
      obtain ⟨_, its, rv, o, ho, hc, n, hd⟩ := hp.ok I.hok
      have hz : (tupleText (PyData.shownAll ds)).length ≤ sizeLine := by simpa only [PyData.shown] using hz
      obtain ⟨bs, b1, b2⟩ := RpL.rk I q rv (by simpa [PyData.showable] using hs) fun t ht => Nat.le_trans (tupleText_mem_le ht) hz
      have out : p ∉ bs := not_mem_of_deeper whole (by simp only [PyData.depth]; omega) b1
      refine ⟨p :: bs, ReadAtMost.cons whole (by simp only [PyData.depth]; omega) b1, ?_⟩
      simp only [PyData.depth, PyData.shown]
      exact .tuple ho hc hd out b2
  | .dict _, v, u, h, r, hs, hz => by
    obtain ⟨_, whole⟩ := Rp.reads I h r
    cases h with
    | @dic p hp =>
      cases r
      obtain ⟨o, es, n, ho, hc, hd, e0, lo⟩ := dic_raw I hp
      refine ⟨[p], ReadAtMost.cons whole (Nat.le_refl _) nofun, ?_⟩
      have out : p ∉ ([] : List Addr) := List.not_mem_nil
      simp only [PyData.depth, PyData.shown, PyData.shownKv_eq]
      exact .dict ho hc hd lo out (.of_two es.toList _ _ (by rw [e0]; exact .nil) (by rw [e0]; exact .nil))
theorem RpL.rk (I : L2.Inv X pins σ H s) : ∀ {ds : List D} {vs : List V} {us : List Value}, RpL H vs ds → Vals vs us → PyData.showableAll ds = true → (∀ t ∈ PyData.shownAll ds, t.length ≤ sizeLine) → ∃ bs, ReadAtMost s.heap (PyData.depthAll ds) bs ∧ ReprAllK X.prog X.w bs s.heap (PyData.depthAll ds) us (PyData.shownAll ds)
  | [], _, _, h, r, _, _ => by cases h; cases r; exact ⟨[], nofun, by simp only [PyData.shownAll]; exact .nil⟩
  | d :: ds, _, _, h, r, hs, hz => by
    cases h with
    | cons a b =>
      cases r with
      | cons r1 r2 =>
        simp only [PyData.showableAll, Bool.and_eq_true] at hs
        obtain ⟨bs, b1, b2⟩ := Rp.rk I a r1 hs.1 (hz _ (by simp only [PyData.shownAll]; exact List.mem_cons_self))
        obtain ⟨cs, c1, c2⟩ := RpL.rk I b r2 hs.2 fun t ht => hz t (by simp only [PyData.shownAll]; exact List.mem_cons_of_mem _ ht)
        refine ⟨bs ++ cs, fun x hx => ?_, ?_⟩
        · simp only [PyData.depthAll]
          rcases List.mem_append.mp hx with hx | hx
          · obtain ⟨e, as, q1, q2⟩ := b1 x hx
            exact ⟨e, as, q1, by omega⟩
          · obtain ⟨e, as, q1, q2⟩ := c1 x hx
            exact ⟨e, as, q1, by omega⟩
        · simp only [PyData.depthAll, PyData.shownAll]
          exact .cons ((b2.more fun x hx => List.mem_append_left _ hx).level_le (Nat.le_max_left _ _)) (c2.more_le (fun x hx => List.mem_append_right _ hx) (Nat.le_max_right _ _))
end
/-- repr of what lies at an address -/
theorem call_repr_rp (I : L2.Inv X pins σ H s) {a : Addr} {d : D} {Q : Value → Shared → Prop} {E : Value → Shared → Prop} (h : Rp H (.ref a) d) (hs : d.showable = true) (hz : d.shown.length ≤ sizeLine) (hdp : d.depth ≤ 60) (hg : X.A.guards = some []) (hu : X.A.units + 64 < cLine)
    (hQ : ∀ h' u tk, (∀ b o, s.heap.get? b = some o → h'.get? b = some o) → Q (.str d.shown u) { s with heap := h', toks := tk }) : wpAny (model X.prog X.w) X.A (call (.builtin "repr") [.ref a]) Q E s := by
  obtain ⟨_, whole⟩ := Rp.reads I h (show RelV (.ref a) (.ref a) from rfl)
  have hu1 : X.A.in1.units + d.depth < cLine := by show X.A.units + 1 + d.depth < cLine; omega
  cases h with
  | @lst p vs ds hp q =>
    obtain ⟨_, its, n, rv, ho⟩ := I.hok a _ hp
    have hz' : (listText (PyData.shownAll ds)).length ≤ sizeLine := by simpa only [PyData.shown] using hz
    obtain ⟨bs, b1, b2⟩ := RpL.rk I q rv (by simpa [PyData.showable] using hs) fun t ht => Nat.le_trans (listText_mem_le ht) hz'
    have out : a ∉ bs := not_mem_of_deeper whole (by simp only [PyData.depth]; omega) b1
    refine call_repr_slot (by omega) ⟨_, ho, rfl⟩ F.slot_list_repr.toG ?_
    simp only [PyData.depth] at hu1
    simp only [PyData.shown] at hQ
    cases its with
    | nil =>
      cases rv
      cases q
      simp only [PyData.shownAll, listText_nil] at hQ
      exact call_list_repr_empty ⟨_, ho, rfl⟩ ho rfl ⟨_, _, rfl, hQ s.heap _ _ fun _ _ e => e⟩
    | cons x l => exact call_list_reprK ho rfl rfl out (by simpa using b2.length_eq) (fun i y e => b2.item i y (by simpa using e)) hg (fun b _ => Clear.nil b) hu1 (fun _ _ e => e) (fun h' u tk hk => ⟨_, _, rfl, hQ h' u tk hk⟩) hz'
  | @tup p vs ds hp q =>
    obtain ⟨_, its, rv, o, ho, hc, n, hd⟩ := hp.ok I.hok
    have hz' : (tupleText (PyData.shownAll ds)).length ≤ sizeLine := by simpa only [PyData.shown] using hz
    obtain ⟨bs, b1, b2⟩ := RpL.rk I q rv (by simpa [PyData.showable] using hs) fun t ht => Nat.le_trans (tupleText_mem_le ht) hz'
    have out : a ∉ bs := not_mem_of_deeper whole (by simp only [PyData.depth]; omega) b1
    refine call_repr_slot (by omega) ⟨_, ho, hc⟩ F.slot_tuple_repr ?_
    simp only [PyData.depth] at hu1
    simp only [PyData.shown] at hQ
    exact call_tuple_reprK ho hc hd out b2 hg (fun b _ => Clear.nil b) hu1 (fun _ _ e => e) (fun h' u tk hk => ⟨_, _, rfl, hQ h' u tk hk⟩) hz'
  | @dic p hp =>
    obtain ⟨o, es, n, ho, hc, hd, e0, lo⟩ := dic_raw I hp
    refine call_repr_slot (by omega) ⟨_, ho, hc⟩ F.slot_dict_repr ?_
    simp only [PyData.depth] at hu1
    simp only [PyData.shown, PyData.shownKv_eq] at hQ
    have out : a ∉ ([] : List Addr) := List.not_mem_nil
    exact call_dict_reprK ho hc hd lo out (.of_two es.toList _ _ (by rw [e0]; exact .nil) (by rw [e0]; exact .nil)) hg (fun b _ => Clear.nil b) hu1 (fun _ _ e => e) (fun h' u tk hk => ⟨_, _, rfl, hQ h' u tk hk⟩) (by rw [← PyData.shownKv_eq]; simpa only [PyData.shown] using hz)
end
def dRepr (d : D) : Option D := if (d.showable && decide (d.depth ≤ 60) && decide (d.shown.length ≤ sizeLine)) = true then some (.str d.shown) else none
def rRepr : List V → Hp → VK → Prop := fun vs H Q => ∃ v d, vs = [v] ∧ Rp H v d ∧ d.showable = true ∧ d.depth ≤ 60 ∧ d.shown.length ≤ sizeLine ∧ Q (.str d.shown) H
theorem cr_repr {X : Cx} (hg : X.A.guards = some []) (hu : X.A.units + 64 < cLine) : CallR X (.builtin "repr") rRepr := by
  intro pins s σ H vs us Q I r h
  obtain ⟨v, d, rfl, rd, h1, h3, h4, q⟩ := h
  have whole := rd
  cases rd with
  | non =>
    rw [show us = [Value.none] by cases r with | cons a b => cases a; cases b; rfl]
    simp only [PyData.shown] at q
    exact PySem.P.repr_of_none ⟨.str _, H, I.tok _, ⟨_, rfl⟩, q⟩
  | bl b =>
    rw [show us = [Value.bool b] by cases r with | cons a c => cases a; cases c; rfl]
    simp only [PyData.shown] at q
    exact PySem.P.repr_of_bool ⟨.str _, H, I.tok _, ⟨_, rfl⟩, q⟩
  | int i =>
    obtain ⟨t, rfl⟩ : ∃ t, us = [Value.int i t] := by cases r with | cons a c => obtain ⟨t, rfl⟩ := a; cases c; exact ⟨t, rfl⟩
    simp only [PyData.shown] at q
    exact PySem.P.repr_of_int (by simpa [PyData.showable] using h1) ⟨.str _, H, I.tok _, ⟨_, rfl⟩, q⟩
  | str z =>
    obtain ⟨t, rfl⟩ : ∃ t, us = [Value.str z t] := by cases r with | cons a c => obtain ⟨t, rfl⟩ := a; cases c; exact ⟨t, rfl⟩
    simp only [PyData.shown] at q h4
    exact PySem.P.repr_of_str ⟨.str _, H, I.tok _, ⟨_, rfl⟩, q⟩ h4
  | lst _ _ => rw [Vals.ref1 r]; exact call_repr_rp I whole h1 h4 h3 hg hu fun h' u tk hk => ⟨.str _, H, I.kept hk, ⟨_, rfl⟩, q⟩
  | tup _ _ => rw [Vals.ref1 r]; exact call_repr_rp I whole h1 h4 h3 hg hu fun h' u tk hk => ⟨.str _, H, I.kept hk, ⟨_, rfl⟩, q⟩
  | dic _ => rw [Vals.ref1 r]; exact call_repr_rp I whole h1 h4 h3 hg hu fun h' u tk hk => ⟨.str _, H, I.kept hk, ⟨_, rfl⟩, q⟩
theorem cd_repr : CallD rRepr (F1 dRepr) := by
  intro G H vs ds z Q gh r hF k
  cases r with
  | nil => cases hF
  | cons a b =>
    cases b with
    | cons _ _ => cases hF
    | nil =>
      have hF : dRepr _ = some z := hF
      simp only [dRepr, Option.ite_none_right_eq_some, Option.some.injEq, Bool.and_eq_true, decide_eq_true_eq] at hF
      obtain ⟨⟨⟨h1, h3⟩, h4⟩, rfl⟩ := hF
      exact ⟨_, _, rfl, a.mono gh, h1, h3, h4, k _ G H (Grow.refl _ _ _) gh (.str _)⟩

/-! ### xs.index(d) -/
def dIndex : D → D → Option D
  | .list ds, d => if (SeqAt.shaped (.list ds) && SeqAt.shaped d) = true then (ds.findIdx? fun z => PyData.eqv z d).map fun j => .int (j : Nat) else none
  | _, _ => none
def idxM (To T : M D) : M D := fun q => To fun l m => (∃ ds, l = .list ds) ∧ T (fun d m2 => lift (dIndex l d) q m2) m
def idxO (oo oe : Option D) : Option D := oo.bind fun l => match l with
  | .list ds => oe.bind fun d => dIndex (.list ds) d
  | _ => none
theorem findIdx_first {p : D → Bool} : ∀ {ds : List D} {j : Nat}, ds.findIdx? p = some j → (∃ z, ds[j]? = some z ∧ p z = true) ∧ ∀ (m : Nat) (z : D), m < j → ds[m]? = some z → p z = false := fun {ds j} h => by
  obtain ⟨hj, h1, h2⟩ := List.findIdx?_eq_some_iff_getElem.mp h
  refine ⟨⟨ds[j], List.getElem?_eq_getElem hj, h1⟩, fun m z hm hz => ?_⟩
  obtain ⟨hm', rfl⟩ := List.getElem?_eq_some_iff.mp hz
  have := h2 m hm
  simpa using this
section
variable {α : Type} {X : Cx} {R : Res} {rk : RK α} {κ : Kt} {q : α → Nat → Prop} {ρ : List Cell} {o e : Expr} {rest : List Stmt} {pos apos cpos : Pos}
theorem jm_index {To T : M D} {k : Nat} (B : Bx X k) (ho : JM X R ρ o To) (he : JM X R ρ e T) (hbase : attributeBase o "index" X.env (eval o X.env) = eval o X.env := by rfl)
    (hfew : ((backTo cpos (starEach (e :: []) X.env)).all (fun x => !x.1) && (backToKw cpos (keywordEach [] X.env)).all (fun x => x.1.isSome) && decide ((e :: ([] : List Expr)).length + ([] : List Keyword).length + (if ([] : List Keyword).isEmpty then 0 else 1) < 30)) = true := by rfl)
    (hline : (apos.endLine == cpos.line) = true := by rfl) (hst : starEach (e :: []) X.env = (false, eval e X.env) :: starEach [] X.env := by rfl) (hpl : (backTo cpos (starEach [] X.env)).any (·.1) = false := by rfl) :
    JM X R ρ (.Call (.Attribute o "index" apos) [e] [] cpos) (idxM To T) := by
  refine PE.imp (pe_bm PySem.F.plainAttrs_list PySem.F.slot_list_index PySem.F.type_list_index (mt_indexD B.u65) ho (pa_cons he pa_nil hst) hbase hfew hline hst hpl) fun σ H Q ⟨G, m, q, S, t, k⟩ => ⟨G, m, _, S, t, fun v d G1 H1 m1 S1 g1 r1 q1 => ?_⟩
  obtain ⟨⟨ds, rfl⟩, q1⟩ := q1
  cases r1 with
  | @lst p vs _ hp r =>
    refine ⟨.inl ⟨rfl, _, .inl (.inl (S1.gh _ _ hp))⟩, G1, m1, _, S1, q1, fun w d G2 H2 m2 S2 g2 r2 q2 => ?_⟩
    obtain ⟨z, hz, q2⟩ := q2
    have hz : (if (SeqAt.shaped (.list ds) && SeqAt.shaped d) = true then (ds.findIdx? fun z => PyData.eqv z d).map fun j => PyData.int (j : Nat) else none) = some z := hz
    by_cases ok : (SeqAt.shaped (.list ds) && SeqAt.shaped d) = true
    · rw [if_pos ok] at hz
      obtain ⟨j, hj, rfl⟩ := Option.map_eq_some_iff.mp hz
      simp only [Bool.and_eq_true] at ok
      obtain ⟨⟨z, h1, h2⟩, h3⟩ := findIdx_first hj
      have rl : Rp G2 (.ref p) (.list ds) := .lst (g2.gg _ _ hp) (r.mono g2.gg)
      exact ⟨p, w, d, ds, j, z, rfl, rfl, (rl.mono S2.gh).dp (PyData.plain_of_canLay0 _ (SeqAt.canLay_of_shaped ok.1)), (r2.mono S2.gh).dp (PyData.plain_of_canLay0 _ (SeqAt.canLay_of_shaped ok.2)), ok.1, ok.2, h1, h2, h3, k _ _ G2 H2 m2 S2 (g1.trans S1.vh g2) (.int _) q2⟩
    · rw [if_neg ok] at hz; cases hz
theorem je_index {oo oe : Option D} {k : Nat} (B : Bx X k) (ho : JE X R ρ o oo) (he : JE X R ρ e oe) (hbase : attributeBase o "index" X.env (eval o X.env) = eval o X.env := by rfl)
    (hfew : ((backTo cpos (starEach (e :: []) X.env)).all (fun x => !x.1) && (backToKw cpos (keywordEach [] X.env)).all (fun x => x.1.isSome) && decide ((e :: ([] : List Expr)).length + ([] : List Keyword).length + (if ([] : List Keyword).isEmpty then 0 else 1) < 30)) = true := by rfl)
    (hline : (apos.endLine == cpos.line) = true := by rfl) (hst : starEach (e :: []) X.env = (false, eval e X.env) :: starEach [] X.env := by rfl) (hpl : (backTo cpos (starEach [] X.env)).any (·.1) = false := by rfl) :
    JE X R ρ (.Call (.Attribute o "index" apos) [e] [] cpos) (idxO oo oe) := (jm_index B ho he hbase hfew hline hst hpl).imp fun q m h => by
  obtain ⟨l, h1, h2⟩ := lift1 h
  refine ⟨l, h1, ?_⟩
  match l, h2 with
  | .list ds, h2 => exact ⟨⟨ds, rfl⟩, lift1 h2⟩
/-! ### a new list is cleared, and dropped -/
theorem jk_clear {T : M (List D)} {a : Nat → Prop} (ho : JL X R ρ o T) (hr : JK X R rk ρ rest κ q a) (hbase : attributeBase o "clear" X.env (eval o X.env) = eval o X.env := by rfl) (hline : (apos.endLine == cpos.line) = true := by rfl)
    (hs : swapsWith (.Call (.Attribute o "clear" apos) [] [] cpos) none pos.line X.env = pure false := by rfl) : JK X R rk ρ (.Expr (.Call (.Attribute o "clear" apos) [] [] cpos) pos :: rest) κ q (T fun _ => a) :=
  PSs.imp (pss_cons (ps_expr (pe_bm0 PySem.F.plainAttrs_list PySem.F.slot_list_clear PySem.F.type_list_clear mt_clear ho hbase hline) hs) hr) fun Dn σ H ⟨Gb, G, m, S, g, t, ls⟩ => ⟨G, m, _, S, t, fun p vs ds G1 H1 m1 S1 g1 hp gp hp1 r1 q1 => by
    refine ⟨.inl ⟨rfl, _, .inl (.inl hp1)⟩, p, vs, rfl, rfl, hp1, ?_⟩
    have nv : ¬ R.vol p := fun v => S.vh p v hp
    have g2 : Grow R.vol G H G1 (upd H1 p (.lst [])) := ⟨g1.gg, fun b u n h => by rw [upd_ne (ne_of_none h hp)]; exact g1.hh b u n h, g1.new⟩
    have S2 : Sit R σ ρ G1 (upd H1 p (.lst [])) m1 := S.grow g2 (fun b u h => by rw [upd_ne (ne_of_none h gp)]; exact S1.gh b u h) (fun b v => by rw [upd_ne fun z : b = p => nv (z ▸ v)]; exact S1.vh b v) (R.dm (fun b v => upd_ne fun z : b = p => nv (z ▸ v)) S1.jd)
    exact ⟨Gb, G1, m1, S2, S.tr g g2, q1, ls.sm g1.gg⟩⟩
end
section
variable {α : Type} {X : Cx} {R : Res} {rk : RK α} {κ : KtE α} {ρ : List Cell} {o e : Expr} {rest : List Stmt} {pos apos cpos : Pos}
theorem jke_clear {oo : Option (List D)} {k : Option α} (ho : JLE X R ρ o oo) (hr : JKE X R rk ρ rest κ k) (hbase : attributeBase o "clear" X.env (eval o X.env) = eval o X.env := by rfl) (hline : (apos.endLine == cpos.line) = true := by rfl)
    (hs : swapsWith (.Call (.Attribute o "clear" apos) [] [] cpos) none pos.line X.env = pure false := by rfl) : JKE X R rk ρ (.Expr (.Call (.Attribute o "clear" apos) [] [] cpos) pos :: rest) κ (oo.bind fun _ => k) := fun a =>
  (jk_clear ho (hr a) hbase hline hs).imp fun _ h => bind_lift (k := fun _ => k) h
end
end Dl

set_option Elab.async false
set_option linter.all false
set_option autoImplicit false
set_option maxRecDepth 100000
set_option maxHeartbeats 1000000
namespace Dl
open PySem L2 PySem.Spec PyProof.Rows PySem.Calls
open PySem.W (AllAlike Sortable SortsAt EachIs dataLe dataKind sortVals copyHeap sortingHeap alike)

/-! ### sorted(t), t a tuple -/
section
variable {prog : Program} {w : World} {A : Around} {E : Value → Shared → Prop} {s : Shared} {t : Addr} {us : List Value}
theorem collect_tup {Q : List Value → Shared → Prop} (ht : s.heap.IsTuple t us.toArray) (hz : us.length ≤ sizeLine) (h : Q us { s with heap := (s.heap.push (seqObj "list" #[] 0)).update s.heap.objs.size (Obj.mapSeq (· ++ us.toArray)) }) : wpAny (model prog w) A (collect (.ref t)) Q E s := by
  obtain ⟨ob, hob, hcls, k, hdat⟩ := id ht
  unfold collect
  refine wpAny_bind (wpAny_runValue (codeAny_builtin entry_proto_collect' ?_))
  refine (?_ : wpAny _ _ (do again (.builtin "list.__iadd__" ⟨[← newList [], .ref t], []⟩)) _ _ s)
  refine wpAny_bind (wpAny_newList (wpAny_pure ⟨Code.quiet_builtin _ (by decide +kernel), codeAny_builtin entry_list_iadd' ?_⟩))
  refine (?_ : wpAny _ _ (Builtin.List.listExtendWith (.ref s.heap.objs.size) (.ref t) (.ref s.heap.objs.size)) _ _ { s with heap := s.heap.push (seqObj "list" #[] 0) })
  unfold Builtin.List.listExtendWith
  have hob2 : (s.heap.push (seqObj "list" #[] 0)).get? t = some ob := Heap.get?_push_of_some _ hob
  refine wpAny_bind (wpAny_typeOf (T := "tuple") ⟨ob, hob2, hcls⟩ ?_)
  have e1 : (Value.type "tuple" == Value.type "tuple") = true := by rfl
  rw [if_pos (by rw [e1]; simp)]
  refine wpAny_bind (listItems_at hob2 hdat ?_)
  refine wpAny_bind (listItems_at (xs := #[]) (n := 0) (Heap.get?_push_size _ rfl) rfl ?_)
  rw [if_neg (by simp)]
  refine wpAny_bind (listUpdate_at (xs := #[]) (n := 0) (Heap.get?_push_size _ rfl) rfl ?_ (Nat.zero_le _) ?_)
  · refine wpAny_pure ?_
    refine (?_ : wpAny (model prog w) A (do let o ← load s.heap.objs.size; match o.data with | .seq xs _ => pure xs.toList | _ => unsupported "internal:collect") Q E { s with heap := (s.heap.push (seqObj "list" #[] 0)).update s.heap.objs.size (Obj.mapSeq (· ++ us.toArray)) })
    refine wpAny_bind (wpAny_load (get?_update_seq (Heap.get?_push_size _ rfl) _) ?_)
    refine (?_ : wpAny _ _ (pure ((#[] : Array Value) ++ us.toArray).toList) Q E _)
    have e2 : ((#[] : Array Value) ++ us.toArray).toList = us := by simp
    rw [e2]
    exact wpAny_pure h
  · show (#[] ++ us.toArray).size ≤ sizeLine + 1
    simp only [Array.size_append, List.size_toArray, List.length_nil]; omega
theorem sort_tup {Q : Value → Shared → Prop} (ht : s.heap.IsTuple t us.toArray) (hz : us.length ≤ sizeLine) (body : ∀ E' : Value → Shared → Prop, wpAny (model prog w) A.in1.in1 (Builtin.«list.sort» ⟨[.ref (s.heap.objs.size + 1)], []⟩) (fun f z => f = .done (.ret .none) ∧ Q (.ref (s.heap.objs.size + 1)) z) E' { s with heap := copyHeap s.heap us }) :
    wpAny (model prog w) A (call (.builtin "sorted") [.ref t]) Q E s := by
  refine call_function_entry_kw kind_sorted plain_sorted entry_sorted (args_sorted1 _) ?_
  unfold Builtin.«sorted»
  refine wpAny_bind (m := checkCount "sorted" 1 1 _) (wpAny_pure ?_)
  refine wpAny_bind (collect_tup ht hz ?_)
  refine wpAny_bind (wpAny_newList ?_ hz)
  have sz : ((s.heap.push (seqObj "list" #[] 0)).update s.heap.objs.size (Obj.mapSeq (· ++ us.toArray))).objs.size = s.heap.objs.size + 1 := by
    rw [Heap.size_update, Heap.size_push]
  refine (?_ : wpAny _ _ _ _ _ { s with heap := copyHeap s.heap us })
  rw [sz]
  refine wpAny_bind (wpAny_holding (wpAny_call_entry_kw slot_list_sort ⟨_, PySem.W.copyHeap_at s.heap us, rfl⟩ entry_list_sort ?body (args_list_sort _)))
  case body =>
    refine wpAny_mono (body _) (fun f z hf => ?_) fun _ _ e => e
    obtain ⟨rfl, hq⟩ := hf
    exact ⟨_, rfl, wpAny_pure ⟨_, rfl, hq⟩⟩
variable {β : Type} {R : Value → β → Prop} {bs : List β} {enc : β → D}
theorem sorted_tup {Q : Value → Shared → Prop} (ht : s.heap.IsTuple t us.toArray) (e : EachIs R us bs) (er : EachIs (fun v b => ∃ as, Reads s.heap v (enc b) as) us bs) (hal : AllAlike (bs.map enc)) (hk : Sortable (bs.map enc)) (hz : bs.length ≤ sizeLine) (hu : ∀ b, b ∈ bs → A.units + 2 + (enc b).depth < cLine)
    (h : ∀ out, out.length = bs.length → EachIs R out (bs.mergeSort (dataLe false enc)) → Q (.ref (s.heap.objs.size + 1)) { s with heap := PyProof.Rows.sortedAll s.heap us (List.toArray out) }) : wpAny (model prog w) A (call (.builtin "sorted") [.ref t]) Q E s := by
  have er2 : EachIs (fun v b => ∃ as, Reads (sortingHeap (copyHeap s.heap us) (s.heap.objs.size + 1) us) v (enc b) as) us bs := er.mono fun _ _ ⟨as, r⟩ => ⟨as, PyProof.Rows.Reads.keeps (fun _ _ => PySem.W.sorting_copy_old) r⟩
  have hz2 : us.length ≤ sizeLine := by rw [e.length]; exact hz
  have S : SortsAt prog w A.in1.in1 { s with heap := sortingHeap (copyHeap s.heap us) (s.heap.objs.size + 1) us } _ us := SortsAt.data (s := { s with heap := sortingHeap (copyHeap s.heap us) (s.heap.objs.size + 1) us }) (PySem.W.each_map (R := fun v d => ∃ as, Reads (sortingHeap (copyHeap s.heap us) (s.heap.objs.size + 1) us) v d as) enc er2) hal hk (PySem.W.bound_map hu)
  refine sort_tup ht hz2 fun _ => PySem.W.list_sort_vals (s := { s with heap := copyHeap s.heap us }) (PySem.W.copyHeap_at s.heap us) S hz2 ⟨rfl, ?_⟩
  exact h _ (by rw [PySem.W.sortVals_length false rfl]; exact e.length) (PySem.W.sortVals_data false e er2 hal)
end
def rSortedDT (K : PySem.W.Frag) : List V → Hp → VK → Prop := fun vs H Q => ∃ (a : Addr) (xs : List V) (ds : List D), vs = [V.ref a] ∧ SqT K H a xs ∧ RpL H xs ds ∧ srtOk ds = true ∧ ∀ p, H p = none → Q (.ref p) (upd H p (.lst (((xs.zip ds).mergeSort (PySem.W.dataLe false Prod.snd)).map Prod.fst)))
theorem cr_sortedDT {X : Cx} (hu : X.A.units + 64 < cLine) : CallR X (.builtin "sorted") (rSortedDT X.K) := by
  intro pins s σ H vs us Q I r h
  obtain ⟨a, xs, ds, rfl, hs, hd, ok, q⟩ := h
  obtain ⟨its, rv, hl, hz⟩ := I.tuple hs
  rw [Vals.ref1 r]
  obtain ⟨as, rd⟩ := RpL.reads I hd rv
  obtain ⟨e1, e2⟩ := each_zip rv rd
  have hlen : xs.length = ds.length := by
    have h1 := rv.length
    have h2 := SeqAt.ReadsAll.length ds its as rd
    omega
  have hmap : (xs.zip ds).map Prod.snd = ds := List.map_snd_zip (by omega)
  simp only [srtOk, Bool.and_eq_true, Bool.or_eq_true, List.all_eq_true, decide_eq_true_eq] at ok
  obtain ⟨⟨⟨o1, o2⟩, o3⟩, o4⟩ := ok
  refine sorted_tup (R := fun v (b : V × D) => RelV b.1 v) (enc := Prod.snd) (us := its) (show s.heap.IsTuple a its.toArray from hl) e1 e2 ?_ ?_ ?_ ?_ fun out hlo eo => ?_
  · rw [hmap]
    exact fun d hd e he => o1 d hd e he
  · rw [hmap]
    rcases o2 with o | o
    · refine .inl fun d hd => ?_
      have := o d hd
      split at this
      · exact ⟨_, _, rfl⟩
      · cases this
    · refine .inr fun d hd => ?_
      have := o d hd
      split at this
      · cases this
      · cases this
      · rename_i n1 n2
        exact ⟨n1, n2⟩
  · rw [List.length_zip]; omega
  · intro b hb
    have hb2 : b.2 ∈ ds := by
      rw [← hmap]
      exact List.mem_map_of_mem hb
    have := o4 b.2 hb2
    omega
  · obtain ⟨ep, he'⟩ := PyProof.Rows.sortedAll_at s.heap its out.toArray
    have hv := each_vals eo
    have hl2 : (((xs.zip ds).mergeSort (PySem.W.dataLe false Prod.snd)).map Prod.fst).length ≤ sizeLine := by
      rw [List.length_map, List.length_mergeSort, List.length_zip]; omega
    exact ⟨.ref _, upd H (s.heap.objs.size + 1) (.lst _), I.laid (t' := s.toks) (fun _ _ => PyProof.Rows.sortedAll_old) (Nat.le_succ _) ⟨hl2, out, ep, hv, he'⟩, rfl, q _ (I.hok.fresh (Nat.le_succ _))⟩
/-- sorted(..) of a list or a tuple -/
def dSort (d : D) : Option (List D) := (dItems d).bind fun ds => if srtOk ds = true then some (srtD ds) else none
theorem cr_sort {X : Cx} (hu : X.A.units + 64 < cLine) : CallR X (.builtin "sorted") (fun vs H Q => rSortedD X.K vs H Q ∨ rSortedDT X.K vs H Q) := (cr_sortedD hu).or (cr_sortedDT hu)
theorem cd_sort {K : PySem.W.Frag} : CallDL (fun vs H Q => rSortedD K vs H Q ∨ rSortedDT K vs H Q) (F1 dSort) := by
  intro G H vs ds z Q gh r hF k
  cases r with
  | nil => cases hF
  | cons a b =>
    cases b with
    | cons _ _ => cases hF
    | nil =>
      have key : ∀ {xs : List V} {ds : List D}, RpL G xs ds → (if srtOk ds = true then some (srtD ds) else none) = some z → srtOk ds = true ∧ ∀ l, H l = none → Q (.ref l) (upd H l (.lst (((xs.zip ds).mergeSort (PySem.W.dataLe false Prod.snd)).map Prod.fst))) := fun {xs ds} r hF => by
        by_cases ok : srtOk ds = true
        · rw [if_pos ok] at hF
          cases hF
          refine ⟨ok, fun l hl => ?_⟩
          obtain ⟨g, s⟩ := grow_own gh hl (.lst (((xs.zip ds).mergeSort (PySem.W.dataLe false Prod.snd)).map Prod.fst))
          refine k l _ G _ g s hl (gh.free hl) upd_same ?_
          have e : srtD ds = ((xs.zip ds).mergeSort (PySem.W.dataLe false Prod.snd)).map Prod.snd := by
            unfold srtD
            have e1 := List.map_mergeSort (f := Prod.snd) (r := PySem.W.dataLe false (Prod.snd : V × D → D)) (s := PySem.W.dataLe false id) (l := xs.zip ds) (fun a _ b _ => rfl)
            rw [List.map_snd_zip (by rw [r.length]; exact Nat.le_refl _)] at e1
            exact e1.symm
          rw [e]
          exact rp_unzip fun b hb => zip_rp r b ((List.mergeSort_perm _ _).mem_iff.mp hb)
        · rw [if_neg ok] at hF; cases hF
      cases a with
      | @lst p xs ds hp r =>
        obtain ⟨ok, f⟩ := key r hF
        exact .inl ⟨p, xs, ds, rfl, SqL.of (gh _ _ hp), (r.mono gh), ok, f⟩
      | @tup p xs ds hp r =>
        obtain ⟨ok, f⟩ := key r hF
        exact .inr ⟨p, xs, ds, rfl, hp.sqm gh, (r.mono gh), ok, f⟩
      | _ => cases hF
end Dl

set_option Elab.async false
set_option linter.all false
set_option autoImplicit false
set_option maxRecDepth 100000
set_option maxHeartbeats 1000000
namespace Dl
open PySem L2
def sliceM (T : M D) (Tl Th : M (Option Int)) : M D := fun q => T fun d => Tl fun l => Th fun u => lift (dCut d l u) q
section
variable {X : Cx} {R : Res} {ρ : List Cell} {e : Expr} {lo hi : Option Expr} {pos p2 : Pos}
theorem jm_sliceM {T : M D} {Tl Th : M (Option Int)} (he : JM X R ρ e T) (hl : JO X R ρ lo Tl) (hh : JO X R ρ hi Th) : JM X R ρ (.Subscript e (.Slice lo hi none p2) pos) (sliceM T Tl Th) := jm_slice he hl hh
theorem jo_someM {T : M D} (h : JM X R ρ e T) : JO X R ρ (some e) (bindM T asI) := jom_some h
end
end Dl

set_option Elab.async false
set_option linter.all false
set_option autoImplicit false
set_option maxRecDepth 100000
set_option maxHeartbeats 1000000
namespace Dl
open PySem L2
/-! ### what drawing code answers: at most k draws, and then Φ -/
def Sp {α : Type} (k : Nat) (T : M α) (Φ : α → Prop) : Prop := ∀ (q : α → Nat → Prop) (m : Nat), m + k ≤ 1000000000 → (∀ a m', m' ≤ m + k → Φ a → q a m') → T q m
section
variable {α β : Type} {k k2 n : Nat} {T : M α} {Φ Ψ : α → Prop}
theorem Sp.mono {T : M α} (h : Sp k T Φ) (hk : k ≤ k2) (hΦ : ∀ a, Φ a → Ψ a) : Sp k2 T Ψ := fun q m hm hq => h q m (by omega) fun a m' hm' ha => hq a m' (by omega) (hΦ a ha)
theorem Sp.use {T : M α} {q : α → Nat → Prop} {m : Nat} (h : Sp k T Φ) (hm : m + k ≤ 1000000000) (hq : ∀ a m', m' ≤ m + k → Φ a → q a m') : T q m := h q m hm hq
theorem sp_lift {o : Option α} {a : α} (h : o = some a) : Sp 0 (lift o) (fun b => b = a) := fun q m _ hq => ⟨a, h, hq a m (Nat.le_refl _) rfl⟩
theorem sp_take {n : Nat} (h0 : 0 < n) (h1 : n < 2 ^ 256) : Sp 1 (m__law_take (.int n)) (fun d => ∃ v : Nat, d = .int v ∧ v < n) := fun q m hm hq => by
  unfold m__law_take
  exact ⟨n, rfl, h0, h1, by omega, fun v hv => hq _ _ (Nat.le_refl _) ⟨v, rfl, hv⟩⟩
/-- a draw whose amount is a number -/
theorem sp_draw {T : M D} {n : Nat} (h : Sp k T fun d => d = .int n) (h0 : 0 < n) (h1 : n < 2 ^ 256) : Sp (k + 1) (drawM (consM T nilM) (G1 m__law_take)) (fun d => ∃ v : Nat, d = .int v ∧ v < n) := fun q m hm hq =>
  h _ m (by omega) fun a m' hm' ha => by
    subst ha
    exact sp_take h0 h1 q m' (by omega) fun d m2 hm2 hd => hq d m2 (by omega) hd
theorem sp_op2 {Ta Tb : M D} {f : D → D → Option D} {Φa Φb : D → Prop} {Φ : D → Prop} (ha : Sp k Ta Φa) (hb : Sp k2 Tb Φb) (hf : ∀ x y, Φa x → Φb y → ∃ z, f x y = some z ∧ Φ z) : Sp (k + k2) (op2 f Ta Tb) Φ := fun q m hm hq =>
  ha _ m (by omega) fun x m1 hm1 hx => hb _ m1 (by omega) fun y m2 hm2 hy => by
    obtain ⟨z, hz, hΦ⟩ := hf x y hx hy
    exact ⟨z, hz, hq z m2 (by omega) hΦ⟩
theorem sp_nil : Sp 0 nilM (fun ds => ds = []) := fun q m _ hq => hq [] m (Nat.le_refl _) rfl
theorem sp_cons {T : M D} {Ts : M (List D)} {Φ : D → Prop} {Φs : List D → Prop} (h : Sp k T Φ) (hs : Sp k2 Ts Φs) : Sp (k + k2) (consM T Ts) (fun ds => ∃ d r, ds = d :: r ∧ Φ d ∧ Φs r) := fun q m hm hq =>
  h _ m (by omega) fun d m1 hm1 hd => hs _ m1 (by omega) fun r m2 hm2 hr => hq _ m2 (by omega) ⟨d, r, rfl, hd, hr⟩
theorem sp_lst {Ts : M (List D)} {Φs : List D → Prop} (h : Sp k Ts Φs) : Sp k (lstM Ts) (fun d => ∃ ds, d = .list ds ∧ Φs ds) := fun q m hm hq => h _ m hm fun ds m' hm' hd => hq _ m' hm' ⟨ds, rfl, hd⟩
theorem sp_tup {Ts : M (List D)} {Φs : List D → Prop} (h : Sp k Ts Φs) : Sp k (tupM Ts) (fun d => ∃ ds, d = .tuple ds ∧ Φs ds) := fun q m hm hq => h _ m hm fun ds m' hm' hd => hq _ m' hm' ⟨ds, rfl, hd⟩
theorem sp_app {Ts : M (List D)} {F : List D → Option β} {Φs : List D → Prop} {Φ : β → Prop} (h : Sp k Ts Φs) (hF : ∀ ds, Φs ds → ∃ b, F ds = some b ∧ Φ b) : Sp k (appM Ts F) Φ := fun q m hm hq => h _ m hm fun ds m' hm' hd => by
  obtain ⟨b, hb, hΦ⟩ := hF ds hd
  exact ⟨b, hb, hq b m' hm' hΦ⟩
theorem sp_bind {T : M D} {f : D → Option β} {Φd : D → Prop} {Φ : β → Prop} (h : Sp k T Φd) (hf : ∀ d, Φd d → ∃ b, f d = some b ∧ Φ b) : Sp k (bindM T f) Φ := fun q m hm hq => h _ m hm fun d m' hm' hd => by
  obtain ⟨b, hb, hΦ⟩ := hf d hd
  exact ⟨b, hb, hq b m' hm' hΦ⟩
/-- each element by at most k draws -/
def All2 (Φ : D → D → Prop) : List D → List D → Prop
  | [], [] => True
  | d :: ds, e :: es => Φ d e ∧ All2 Φ ds es
  | _, _ => False
theorem All2.len {Φ : D → D → Prop} : ∀ {ds es : List D}, All2 Φ ds es → es.length = ds.length
  | [], [], _ => rfl
  | d :: ds, e :: es, h => by simp [All2.len h.2]
  | [], _ :: _, h => h.elim
  | _ :: _, [], h => h.elim
theorem sp_cM {f : D → M D} {Φ : D → D → Prop} : ∀ {ds : List D}, (∀ d ∈ ds, Sp k (f d) (Φ d)) → Sp (ds.length * k) (cM (fun d => turnM (lift (some true)) (f d)) ds) (fun es => All2 Φ ds es)
  | [], _ => fun q m _ hq => hq [] m (by omega) trivial
  | d :: ds, h => fun q m hm hq => by
    have e : (ds.length + 1) * k = ds.length * k + k := Nat.succ_mul _ _
    rw [List.length_cons, e] at hm
    refine ⟨true, rfl, ?_⟩
    refine h d List.mem_cons_self _ m (by omega) fun x m1 hm1 hx => ?_
    exact sp_cM (fun d' hd' => h d' (List.mem_cons_of_mem _ hd')) _ m1 (by omega) fun es m2 hm2 hes => hq _ m2 (by rw [List.length_cons, e]; omega) ⟨hx, hes⟩
theorem sp_lc {Ti : M (List D)} {ds : List D} {f : D → M D} {Φ : D → D → Prop} (hi : Sp k2 Ti (fun es => es = ds)) (hl : ds.length < sizeLine) (h : ∀ d ∈ ds, Sp k (f d) (Φ d)) : Sp (k2 + ds.length * k) (lcM Ti fun d => turnM (lift (some true)) (f d)) (fun es => All2 Φ ds es) := fun q m hm hq =>
  hi _ m (by omega) fun a m1 hm1 ha => by
    subst ha
    exact ⟨hl, sp_cM h q m1 (by omega) fun es m2 hm2 he => hq es m2 (by omega) he⟩
end
/-! ### a drawn order -/
@[irreducible] def m__law_one_of (some1 : D) : M D := fun q =>
  ((op2 dIx (lift (some some1)) (drawM (consM (lift (C1 dLen (some some1))) nilM) (G1 m__law_take))) q)
@[irreducible] def m__law_draw_order (n1 : D) : M D := fun q =>
  ((consLM (lift (C1 dRg1 (some n1))) (consLM (lift (some [])) nilCM)) (cel2M (fun c3 c5 => (onLM (fun left2 => (onLM (fun found4 => ((lift (C1 (fun x => dRange [x]) (some n1))) fun ds => forK (S := List D × List D) (fun s6 turn10 kk7 => (popK (lendM (drawM (consM (lift (C1 dLen (some (PyData.list s6.1)))) nilM) (G1 m__law_take))) s6.2 s6.1 fun found11 left12 => (kk7 (left12, found11)))) ds (left2, found4) fun s9 => ((lift (C1 dTup (some (PyData.list s9.2)))) q))) c5)) c3))))
theorem rangeD0 (n : Nat) : rangeD 0 n = (List.range n).map fun (i : Nat) => PyData.int i := by
  unfold rangeD
  rw [Int.sub_zero, Int.toNat_natCast]
  exact List.map_congr_left fun i _ => by rw [Int.zero_add]
def ofN (xs : List Nat) : List D := xs.map fun (i : Nat) => PyData.int i
theorem ofN_len (xs : List Nat) : (ofN xs).length = xs.length := by simp [ofN]
theorem eraseIdx_ofN : ∀ (xs : List Nat) (v : Nat), (ofN xs).eraseIdx v = ofN (xs.eraseIdx v)
  | [], _ => by simp [ofN]
  | x :: xs, 0 => rfl
  | x :: xs, v + 1 => by
    show PyData.int x :: (ofN xs).eraseIdx v = _
    rw [eraseIdx_ofN xs v]
    rfl
theorem pick_perm : ∀ (xs : List Nat) (v : Nat) (h : v < xs.length), List.Perm ([xs[v]] ++ xs.eraseIdx v) xs
  | x :: xs, 0, _ => List.Perm.refl _
  | x :: xs, v + 1, h => (List.Perm.swap x (xs[v]'(by simpa using h)) _).trans ((pick_perm xs v (by simpa using h)).cons x)
theorem order_loop : ∀ (ts : List D) (left found : List Nat) (q : D → Nat → Prop) (m : Nat), left.length = ts.length → left.length + found.length < 1000000 → m + ts.length ≤ 1000000000 →
    (∀ (xs : List Nat) (m' : Nat), m' ≤ m + ts.length → xs.Perm (found ++ left) → q (.tuple (ofN xs)) m') →
    forK (S := List D × List D) (fun s6 turn10 kk7 => (popK (lendM (drawM (consM (lift (C1 dLen (some (PyData.list s6.1)))) nilM) (G1 m__law_take))) s6.2 s6.1 fun found11 left12 => (kk7 (left12, found11)))) ts (ofN left, ofN found) (fun s9 => ((lift (C1 dTup (some (PyData.list s9.2)))) q)) m
  | [], left, found, q, m, h1, _, _, hq => by
    have : left = [] := List.length_eq_zero_iff.mp h1
    subst this
    refine ⟨_, rfl, hq found m (by simp) (by simp)⟩
  | t :: ts, left, found, q, m, h1, h2, hm, hq => by
    have hl : 0 < left.length := by rw [h1]; simp
    rw [List.length_cons] at h1 hm
    refine sp_draw (k := 0) (n := left.length) (T := lift (C1 dLen (some (PyData.list (ofN left))))) (fun q' m' _ hq' => ⟨.int (left.length : Nat), by show some (PyData.int ((ofN left).length : Nat)) = _; rw [ofN_len], hq' _ m' (Nat.le_refl _) rfl⟩) hl (by omega) _ m (by omega) fun d m1 hm1 hd => ?_
    obtain ⟨v, rfl, hv⟩ := hd
    refine ⟨rfl, (v : Int), v, .int (left[v] : Nat), rfl, by omega, by omega, ?_, ?_, ?_, ?_⟩
    · exact ixN_nat' (by rw [ofN_len]; exact hv)
    · simp [ofN, hv]
    · rw [ofN_len, sizeLine_eq]; omega
    · have e1 : ofN found ++ [PyData.int (left[v] : Nat)] = ofN (found ++ [left[v]]) := by simp [ofN]
      have e2 : (ofN left).eraseIdx v = ofN (left.eraseIdx v) := eraseIdx_ofN left v
      show forK (S := List D × List D) _ ts ((ofN left).eraseIdx v, ofN found ++ [PyData.int (left[v] : Nat)]) _ m1
      rw [e1, e2]
      have hle : (left.eraseIdx v).length = left.length - 1 := List.length_eraseIdx_of_lt hv
      refine order_loop ts (left.eraseIdx v) (found ++ [left[v]]) q m1 (by omega) (by simp; omega) (by omega) fun xs m' hm' hp => hq xs m' (by rw [List.length_cons]; omega) (hp.trans ?_)
      rw [List.append_assoc]
      refine List.Perm.append_left found ?_
      exact pick_perm left v hv
theorem sp_order {n : Nat} (h0 : n < 100000) : Sp n (m__law_draw_order (.int n)) (fun d => ∃ xs : List Nat, d = .tuple (ofN xs) ∧ xs.Perm (List.range n)) := fun q m hm hq => by
  unfold m__law_draw_order
  have e1 : C1 dRg1 (some (PyData.int (n : Nat))) = some (ofN (List.range n)) := by
    have h : rgOk 0 n = true := by
      simp only [rgOk, decide_eq_true_eq]
      omega
    rw [c1_some]
    simp only [dRg1, h, if_true]
    rw [rangeD0]
    rfl
  have e2 : C1 (fun x => dRange [x]) (some (PyData.int (n : Nat))) = some (rangeD 0 n) := by
    have h : small62 n = true := by
      simp only [small62, decide_eq_true_eq]
      omega
    rw [c1_some]
    simp only [dRange, h, if_true]
  refine ⟨_, e1, _, rfl, ?_⟩
  refine ⟨_, e2, ?_⟩
  have hr : (rangeD 0 (n : Int)).length = n := by rw [rangeD_len]; omega
  refine order_loop (rangeD 0 n) (List.range n) [] q m (by rw [hr]; simp) (by simp; omega) (by rw [hr]; exact hm) fun xs m' hm' hp => hq _ m' (by rw [hr] at hm'; exact hm') ⟨xs, rfl, by simpa using hp⟩
end Dl

set_option Elab.async false
set_option linter.all false
set_option autoImplicit false
set_option maxRecDepth 100000
set_option maxHeartbeats 1000000
namespace Dl
open PySem L2
def b__law_same (self : D → D → Option (D)) (found1 due2 : D) : Option (D) :=
  (ifO (orO ((b2 (dIsN false) (some due2) (some PyData.none)).bind asB) ((b2 (dIsN false) (some found1) (some PyData.none)).bind asB)) (andV (b2 (dIsN false) (some due2) (some PyData.none)) (b2 (dIsN false) (some found1) (some PyData.none))) (ifO (orO (((some due2).map fun d => PyData.bool (isTy "bool" d)).bind asT) (((some found1).map fun d => PyData.bool (isTy "bool" d)).bind asT)) (andV ((some due2).map fun d => PyData.bool (isTy "bool" d)) (andV ((some found1).map fun d => PyData.bool (isTy "bool" d)) (b2 dEq (some found1) (some due2)))) (ifO (((some due2).map fun d => PyData.bool (isTy "int" d || isTy "str" d)).bind asT) (ifO ((b2 dNe ((some found1).map fun d => PyData.bool (isTy "int" d)) ((some due2).map fun d => PyData.bool (isTy "int" d))).bind asB) (some (PyData.bool false)) (andV ((some found1).map fun d => PyData.bool (isTy "int" d || isTy "str" d)) (b2 dEq (some found1) (some due2)))) (ifO (orO ((b2 dNe ((some due2).map fun d => PyData.bool (isTy "tuple" d)) ((some found1).map fun d => PyData.bool (isTy "tuple" d))).bind asB) ((b2 dNe ((some due2).map fun d => PyData.bool (isTy "list" d)) ((some found1).map fun d => PyData.bool (isTy "list" d))).bind asB)) (some (PyData.bool false)) (ifO ((b2 dNe (C1 dLen (some found1)) (C1 dLen (some due2))).bind asB) (some (PyData.bool false)) (b2 (dIn true) (some (PyData.bool false)) ((lcO (C2 dZip (some found1) (some due2)) fun d => un2 d fun one3 other4 => turnO (some true) (C2 self (some one3) (some other4))).map PyData.list)))))))
def m__law_same : Nat → D → D → Option (D)
  | 0 => fun _ _ => none
  | n + 1 => b__law_same (m__law_same n)
@[irreducible] def r__law_same : D → D → Option (D) := m__law_same 40
/-! ### comprehensions over known lists -/
theorem cO_map {α : Type} {f : D → Option D} {g h : α → D} : ∀ (xs : List α), (∀ x ∈ xs, f (g x) = some (h x)) → cO (fun d => turnO (some true) (f d)) (xs.map g) = some (xs.map h)
  | [], _ => rfl
  | x :: xs, hf => by
    show (turnO (some true) (f (g x))).bind _ = _
    rw [hf x List.mem_cons_self]
    show (cO (fun d => turnO (some true) (f d)) (xs.map g)).bind _ = _
    rw [cO_map xs fun y hy => hf y (List.mem_cons_of_mem _ hy)]
    rfl
theorem lcO_map {α : Type} {f : D → Option D} {g h : α → D} {oi : Option (List D)} (xs : List α) (hi : oi = some (xs.map g)) (hl : xs.length < sizeLine) (hf : ∀ x ∈ xs, f (g x) = some (h x)) : lcO oi (fun d => turnO (some true) (f d)) = some (xs.map h) := by
  rw [hi]
  show (if (xs.map g).length < sizeLine then cO _ (xs.map g) else none) = _
  rw [if_pos (by rw [List.length_map]; exact hl)]
  exact cO_map xs hf
theorem cO_filter {α : Type} {t : D → Option Bool} {f : D → Option D} {p : α → Bool} {g h : α → D} : ∀ (xs : List α), (∀ x ∈ xs, t (g x) = some (p x)) → (∀ x ∈ xs, p x = true → f (g x) = some (h x)) → cO (fun d => turnO (t d) (f d)) (xs.map g) = some ((xs.filter p).map h)
  | [], _, _ => rfl
  | x :: xs, ht, hf => by
    show (turnO (t (g x)) (f (g x))).bind _ = _
    rw [ht x List.mem_cons_self]
    have ih := cO_filter (t := t) (f := f) (p := p) (g := g) (h := h) xs (fun y hy => ht y (List.mem_cons_of_mem _ hy)) fun y hy => hf y (List.mem_cons_of_mem _ hy)
    by_cases hp : p x = true
    · rw [hp, hf x List.mem_cons_self hp, List.filter_cons_of_pos hp]
      show (cO (fun d => turnO (t d) (f d)) (xs.map g)).bind _ = _
      rw [ih]; rfl
    · rw [Bool.not_eq_true] at hp
      rw [hp, List.filter_cons_of_neg (by rw [hp]; exact Bool.false_ne_true)]
      show (cO (fun d => turnO (t d) (f d)) (xs.map g)).bind _ = _
      rw [ih]; rfl
theorem lcO_filter {α : Type} {t : D → Option Bool} {f : D → Option D} {p : α → Bool} {g h : α → D} {oi : Option (List D)} (xs : List α) (hi : oi = some (xs.map g)) (hl : xs.length < sizeLine) (ht : ∀ x ∈ xs, t (g x) = some (p x)) (hf : ∀ x ∈ xs, p x = true → f (g x) = some (h x)) :
    lcO oi (fun d => turnO (t d) (f d)) = some ((xs.filter p).map h) := by
  rw [hi]
  show (if (xs.map g).length < sizeLine then cO _ (xs.map g) else none) = _
  rw [if_pos (by rw [List.length_map]; exact hl)]
  exact cO_filter xs ht hf
theorem eqOk_int (i j : Int) : eqOk (.int i) (.int j) = true := by simp [eqOk, PyData.plain, PyData.depth]
theorem eqOk_bool (i j : Bool) : eqOk (.bool i) (.bool j) = true := by simp [eqOk, PyData.plain, PyData.depth]
theorem dEq_int (i j : Int) : dEq (.int i) (.int j) = some (.bool (decide (i = j))) := by
  unfold dEq
  rw [if_pos (eqOk_int i j)]
  have e : (i == j) = decide (i = j) := by by_cases h : i = j <;> simp [h]
  simp [PyData.eqv, e]
theorem dNe_int (i j : Int) : dNe (.int i) (.int j) = some (.bool (!decide (i = j))) := by
  unfold dNe
  rw [if_pos (eqOk_int i j)]
  have e : (i == j) = decide (i = j) := by by_cases h : i = j <;> simp [h]
  simp [PyData.eqv, e]
theorem dNe_bool (i j : Bool) : dNe (.bool i) (.bool j) = some (.bool (!decide (i = j))) := by
  unfold dNe
  rw [if_pos (eqOk_bool i j)]
  cases i <;> cases j <;> simp [PyData.eqv]
/-! ### _law_same of a datum and itself -/
theorem zip_self {α : Type} {f : D → D → Option D} {h : α → D} {g : α → D} : ∀ (xs : List α), (∀ x ∈ xs, f (g x) (g x) = some (h x)) → cO (fun d => un2 d fun a b => turnO (some true) (f a b)) (zipD (xs.map g) (xs.map g)) = some (xs.map h)
  | [], _ => rfl
  | x :: xs, hf => by
    show (turnO (some true) (f (g x) (g x))).bind _ = _
    rw [hf x List.mem_cons_self]
    show (cO _ (zipD (xs.map g) (xs.map g))).bind _ = _
    rw [zip_self xs fun y hy => hf y (List.mem_cons_of_mem _ hy)]
    rfl
theorem notin_true (n : Nat) : dIn true (.bool false) (.list (List.replicate n (.bool true))) = some (.bool true) := by
  have h1 : PyData.plainAll (List.replicate n (PyData.bool true)) = true := by
    induction n with
    | zero => rfl
    | succ n ih => rw [List.replicate_succ]; simp [PyData.plainAll, PyData.plain, ih]
  have h2 : (List.replicate n (PyData.bool true)).any (fun y => PyData.eqv y (.bool false)) = false := by
    rw [List.any_eq_false]
    intro y hy
    rw [(List.mem_replicate.mp hy).2]
    simp [PyData.eqv]
  have h3 : inOk (.bool false) (List.replicate n (.bool true)) = true := by
    simp [inOk, h1, PyData.plain, PyData.depth]
  show (if inOk (.bool false) (List.replicate n (.bool true)) = true then some (PyData.bool (if true = true then _ else _)) else none) = _
  rw [if_pos h3, if_pos rfl, h2]
  rfl
/-- ints, and lists and tuples of such -/
def flat : Nat → D → Bool
  | _, .int _ => true
  | n + 1, .list ds => decide (ds.length < sizeLine) && ds.all (flat n)
  | n + 1, .tuple ds => decide (ds.length < sizeLine) && ds.all (flat n)
  | _, _ => false
theorem same_int (n : Nat) (i j : Int) : m__law_same (n + 1) (.int i) (.int j) = some (.bool (decide (i = j))) := by
  show b__law_same _ _ _ = _
  unfold b__law_same
  have e1 : b2 dNe ((some (PyData.int i)).map fun d => PyData.bool (isTy "int" d)) ((some (PyData.int j)).map fun d => PyData.bool (isTy "int" d)) = some (.bool false) := dNe_bool true true
  have e2 : b2 dEq (some (.int i)) (some (.int j)) = some (.bool (decide (i = j))) := dEq_int i j
  rw [e1, e2]
  rfl
theorem same_seq {n : Nat} {ds : List D} {d : D} (hd : d = .list ds ∨ d = .tuple ds) (hl : ds.length < sizeLine) (h : ∀ x ∈ ds, m__law_same n x x = some (.bool true)) : m__law_same (n + 1) d d = some (.bool true) := by
  have hz : lcO (some (zipD ds ds)) (fun d => un2 d fun a b => turnO (some true) (C2 (m__law_same n) (some a) (some b))) = some (List.replicate ds.length (.bool true)) := by
    show (if (zipD ds ds).length < sizeLine then cO _ (zipD ds ds) else none) = _
    rw [if_pos (by rw [zipD_len]; omega)]
    have := zip_self (f := fun a b => C2 (m__law_same n) (some a) (some b)) (g := id) (h := fun _ => PyData.bool true) ds (fun x hx => h x hx)
    rw [List.map_id] at this
    rw [this, List.map_const']
  have hb : ∀ b : Bool, b2 dNe (some (.bool b)) (some (.bool b)) = some (.bool false) := fun b => by
    rw [b2_some, dNe_bool]
    simp
  have hi : ∀ i : Int, b2 dNe (some (.int i)) (some (.int i)) = some (.bool false) := fun i => by
    rw [b2_some, dNe_int]
    simp
  show b__law_same _ _ _ = _
  unfold b__law_same
  rcases hd with rfl | rfl
  · have e1 : C1 dLen (some (.list ds)) = some (.int ds.length) := rfl
    have e2 : C2 dZip (some (.list ds)) (some (.list ds)) = some (zipD ds ds) := rfl
    rw [e1, e2, hi, hz]
    have e3 : b2 (dIn true) (some (PyData.bool false)) ((some (List.replicate ds.length (PyData.bool true))).map PyData.list) = some (.bool true) := notin_true _
    rw [e3]
    have t1 : b2 dNe ((some (PyData.list ds)).map fun d => PyData.bool (isTy "tuple" d)) ((some (PyData.list ds)).map fun d => PyData.bool (isTy "tuple" d)) = some (.bool false) := hb _
    have t2 : b2 dNe ((some (PyData.list ds)).map fun d => PyData.bool (isTy "list" d)) ((some (PyData.list ds)).map fun d => PyData.bool (isTy "list" d)) = some (.bool false) := hb _
    rw [t1, t2]
    rfl
  · have e1 : C1 dLen (some (.tuple ds)) = some (.int ds.length) := rfl
    have e2 : C2 dZip (some (.tuple ds)) (some (.tuple ds)) = some (zipD ds ds) := rfl
    rw [e1, e2, hi, hz]
    have e3 : b2 (dIn true) (some (PyData.bool false)) ((some (List.replicate ds.length (PyData.bool true))).map PyData.list) = some (.bool true) := notin_true _
    rw [e3]
    have t1 : b2 dNe ((some (PyData.tuple ds)).map fun d => PyData.bool (isTy "tuple" d)) ((some (PyData.tuple ds)).map fun d => PyData.bool (isTy "tuple" d)) = some (.bool false) := hb _
    have t2 : b2 dNe ((some (PyData.tuple ds)).map fun d => PyData.bool (isTy "list" d)) ((some (PyData.tuple ds)).map fun d => PyData.bool (isTy "list" d)) = some (.bool false) := hb _
    rw [t1, t2]
    rfl
theorem same_flat : ∀ (n : Nat) (d : D), flat n d = true → m__law_same (n + 1) d d = some (.bool true)
  | n, .int i, _ => by rw [same_int]; simp
  | n + 1, .list ds, h => by
    simp only [flat, Bool.and_eq_true, decide_eq_true_eq, List.all_eq_true] at h
    exact same_seq (.inl rfl) h.1 fun x hx => same_flat n x (h.2 x hx)
  | n + 1, .tuple ds, h => by
    simp only [flat, Bool.and_eq_true, decide_eq_true_eq, List.all_eq_true] at h
    exact same_seq (.inr rfl) h.1 fun x hx => same_flat n x (h.2 x hx)
  | 0, .none, h => by cases h
  | 0, .bool _, h => by cases h
  | 0, .str _, h => by cases h
  | 0, .list _, h => by cases h
  | 0, .tuple _, h => by cases h
  | 0, .dict _, h => by cases h
  | n + 1, .none, h => by cases h
  | n + 1, .bool _, h => by cases h
  | n + 1, .str _, h => by cases h
  | n + 1, .dict _, h => by cases h
theorem same_ok {d : D} (h : flat 39 d = true) : r__law_same d d = some (.bool true) := by
  unfold r__law_same
  exact same_flat 39 d h
end Dl

set_option Elab.async false
set_option linter.all false
set_option autoImplicit false
set_option maxRecDepth 100000
set_option maxHeartbeats 2000000
namespace Dl
open PySem L2 PySem.Spec PyProof.Rows PySem.Calls
/-! ### sets of up to 75 tuples of ints -/
section
variable {P : Program} {w : World} {A : Around} {E : Value → Shared → Prop} {s : Shared} {a : Addr} {L : List (Addr × List Int)} {es : Array (Int × Value)} {ep : Nat} {t : SetTable}
/-- the set at a, its table of any of the sizes -/
structure S0 (P : Program) (w : World) (h : Heap) (a : Addr) (L : List (Addr × List Int)) (es : Array (Int × Value)) (ep : Nat) (t : SetTable) : Prop where
  at_ : ∃ o, h.get? a = some o ∧ o.ExactSet ∧ o.data = .set es ep t
  row : es.toList = rowsOf P w L
  tb : TabOk t (L.map fun p => thash P w p.2)
  one : (L.map (·.2)).Nodup
  tp : ∀ p ∈ L, IsT P w h p.2 p.1
  pl : t.plain = true
  ld : w.params.followText "set-order" = true ∨ t.led = true
  rm : L.length * 5 < t.mask * 3
  lim : L.length ≤ 76
theorem SetTR.s0 {h : Heap} (R : SetTR P w h a L es ep t) : S0 P w h a L es ep t := ⟨R.ob, R.rows, R.tab, R.nd, R.tup, R.plain, R.led, R.room, by have := R.few; omega⟩
theorem S0.len {h : Heap} (R : S0 P w h a L es ep t) : es.size = L.length := by
  have q := congrArg List.length R.row
  simpa [rowsOf] using q
theorem S0.fit {h : Heap} (R : S0 P w h a L es ep t) : t.fits es.size = true := by
  have q1 := R.tb.sz
  have q2 := R.len
  have q3 := R.rm
  rw [List.length_map] at q1
  simp only [SetTable.fits, SetTable.fill, R.tb.dm, Bool.and_eq_true, beq_iff_eq, decide_eq_true_eq]
  refine ⟨by omega, ?_⟩
  show t.place.size + 0 ≤ t.mask
  omega
theorem S0.at {h : Heap} (R : S0 P w h a L es ep t) {i : Nat} {p : Addr × List Int} (e : L[i]? = some p) : es[i]? = some (thash P w p.2, Value.ref p.1) := by
  rw [← Array.getElem?_toList, R.row, rowsOf, List.getElem?_map, e]
  rfl
theorem S0.stays {h : Heap} (R : S0 P w h a L es ep t) : ¬ t.gaveWay = true := by
  simp only [SetTable.gaveWay, mask_odd R.tb.mok]
  decide
/-- the c-th step of the way of a hash -/
abbrev stepAt (t : SetTable) (h : Int) (c : Nat) : SetTable.Probe := nth t.mask (runAt t.mask (SetTable.bits h % (t.mask + 1)) (SetTable.bits h)) c
theorem stepAt_clear (t : SetTable) (h : Int) (c : Nat) : (stepAt t h c).dummy = none := by
  have gen : ∀ (n : Nat) (p : SetTable.Probe), p.dummy = none → (nth t.mask p n).dummy = none := fun n => by
    induction n with
    | zero => exact fun _ q => q
    | succ n ih => exact fun p q => ih (adv t.mask p) (by unfold adv; split <;> exact q)
  exact gen c _ rfl
theorem stepAt_add (t : SetTable) (h : Int) (c q : Nat) : nth t.mask (stepAt t h c) q = stepAt t h (c + q) := (nth_add t.mask c _ q).symm
theorem stepAt_way (t : SetTable) (h : Int) (c q : Nat) : (nth t.mask (stepAt t h c) q).j = way t.mask h (c + q) := congrArg SetTable.Probe.j (stepAt_add t h c q)
def hashIn (es : Array (Int × Value)) (i : Nat) : Int := (es[i]?.map (·.1)).getD 0
theorem S0.hash {h : Heap} (R : S0 P w h a L es ep t) {i : Nat} {p : Addr × List Int} (e : L[i]? = some p) : hashIn es i = thash P w p.2 := by
  unfold hashIn
  rw [R.at e]
  rfl
theorem look_from (R : S0 P w s.heap a L es ep t) {x : Addr} {k : List Int} (hx : IsT P w s.heap k x) (hu : A.units < cLine) {K : Nat} (hKf : K < 10 * SetTable.turns t.mask) (hK : way t.mask (thash P w k) K ∉ t.place.toList) (hKb : ∀ c, c < K → way t.mask (thash P w k) c ∈ t.place.toList)
    {Q : SetFound → Shared → Prop} (found : k ∈ L.map (·.2) → Q (.there none) s) (free : k ∉ L.map (·.2) → Q (.free (way t.mask (thash P w k) K) false) s) : ∀ (f c : Nat) (st : Option SetTable.Probe), st.getD (t.probeStart (thash P w k)) = stepAt t (thash P w k) c → c ≤ K → K - c < f →
      (∀ (i : Nat) p, L[i]? = some p → p.2 = k → ∃ e, c ≤ e ∧ e < K ∧ t.place.toList[i]? = some (way t.mask (thash P w k) e)) → wpAny (model P w) A (setSearchFrom a (.ref x) (thash P w k) true f st) Q E s
  | 0, _, _, _, _, hf, _ => (Nat.not_lt_zero _ hf).elim
  | f + 1, c, st, hst, hc, hf, ahead => by
    obtain ⟨o, ho, hex, hd⟩ := R.at_
    rw [setSearchFrom_succ]
    refine wpAny_bind (wpAny_setState_of ho hd R.fit ?_)
    dsimp only
    refine wp_if_neg R.stays ?_
    try refine wpAny_bind (wpAny_pure ?_)
    rcases go_spec t R.tb.ris R.tb.dm (hashIn es) (thash P w k) (10 * SetTable.turns t.mask) (K - c) (stepAt t (thash P w k) c) (stepAt_clear _ _ _) (by omega) (fun q hq => by rw [stepAt_way]; exact hKb (c + q) (by omega)) (by rw [stepAt_way, show c + (K - c) = K by omega]; exact hK) with ⟨q, i, hq, hi, hh, hno, hpr⟩ | ⟨hno, hpr⟩
    · -- an entry of the same hash
      have step : t.probe (hashIn es) (thash P w k) (st.getD (t.probeStart (thash P w k))) = some (.candidate (way t.mask (thash P w k) (c + q)) i (stepAt t (thash P w k) (c + (q + 1)))) := by
        rw [hst, ← stepAt_way, ← stepAt_add]
        exact hpr
      have step' : t.probe (fun i => (es[i]?.map (·.1)).getD 0) (thash P w k) (st.getD (t.probeStart (thash P w k))) = some (.candidate (way t.mask (thash P w k) (c + q)) i (stepAt t (thash P w k) (c + (q + 1)))) := step
      rw [step']
      dsimp only
      rw [stepAt_way] at hi
      have small : i < L.length := by
        have q1 := (List.getElem?_eq_some_iff.mp hi).1
        have q2 := R.tb.sz
        rw [List.length_map] at q2
        rw [Array.length_toList] at q1
        omega
      obtain ⟨p, hp⟩ : ∃ p, L[i]? = some p := ⟨_, List.getElem?_eq_getElem small⟩
      have hin := List.mem_of_getElem? hp
      have rest : wpAny (model P w) A (searchRest a (.ref x) (thash P w k) true f es t (way t.mask (thash P w k) (c + q)) i (stepAt t (thash P w k) (c + (q + 1)))) Q E s := by
        unfold searchRest
        rw [R.at hp]
        dsimp only
        refine wpAny_bind (wpAny_holding (wpAny_eqBool_tuple hu (R.tp p hin) hx (wpAny_bind (wpAny_setState_of ho hd R.fit ?_))))
        dsimp only
        by_cases same : p.2 = k
        · exact wp_if_pos (by simp [same]) (wpAny_pure (found (List.mem_map.mpr ⟨p, hin, same⟩)))
        · refine wp_if_neg (by simp [same]) ?_
          try refine wpAny_bind (wpAny_pure ?_)
          rw [sameMem]
          dsimp only
          have live : t.slot (way t.mask (thash P w k) (c + q)) = .live i := slot_live R.tb.ris hi
          simp only [if_true, live, R.at hp]
          refine wpAny_bind (wpAny_isSame_ref_self (wpAny_bind (wpAny_pure ?_)))
          simp only [if_true]
          refine wp_if_neg (by simp [same]) ?_
          refine look_from R hx hu hKf hK hKb found free f (c + (q + 1)) _ rfl (by omega) (by omega) fun j r hj hr => ?_
          obtain ⟨e, e1, e2, e3⟩ := ahead j r hj hr
          refine ⟨e, ?_, e2, e3⟩
          by_cases lt : e < c + q
          · refine (hno (e - c) j (by omega) (by rw [stepAt_way, show c + (e - c) = e by omega]; exact e3) ?_).elim
            exact (R.hash hj).trans (congrArg (thash P w) hr)
          · by_cases eq : e = c + q
            · subst eq
              have z := slot_live R.tb.ris e3
              rw [live] at z
              injection z with z
              subst z
              rw [hp] at hj
              cases hj
              exact (same hr).elim
            · omega
      by_cases hl : t.led = true
      · refine wp_if_neg (by simp [hl]) ?_
        try refine wpAny_bind (wpAny_pure ?_)
        exact rest
      · refine wp_if_pos (by simp [hl]) (wpAny_bind (seen_tup hx (fun y hy => ?_) ?_))
        · obtain ⟨e, he, rfl⟩ := List.mem_map.mp hy
          have he : e ∈ es.toList := by
            have : e ∈ es ∧ e.1 = thash P w k := by simpa using he
            simpa using this.1
          rw [R.row] at he
          obtain ⟨r, hr, rfl⟩ := List.mem_map.mp he
          exact ⟨r.2, r.1, rfl, R.tp r hr⟩
        · refine wp_if_neg (by decide) ?_
          try refine wpAny_bind (wpAny_pure ?_)
          exact rest
    · -- nothing stands there
      have step : t.probe (fun i => (es[i]?.map (·.1)).getD 0) (thash P w k) (st.getD (t.probeStart (thash P w k))) = some (.empty (way t.mask (thash P w k) K) none) := by
        have e2 : way t.mask (thash P w k) K = (nth t.mask (stepAt t (thash P w k) c) (K - c)).j := by rw [stepAt_way, show c + (K - c) = K by omega]
        rw [hst, e2]
        exact hpr
      rw [step]
      dsimp only
      refine wpAny_pure (free fun hm => ?_)
      obtain ⟨r, hr, rfl⟩ := List.mem_map.mp hm
      obtain ⟨j, hj, ej⟩ := List.getElem_of_mem hr
      have hj' : L[j]? = some r := by rw [List.getElem?_eq_getElem hj, ej]
      obtain ⟨e, e1, e2, e3⟩ := ahead j r hj' rfl
      exact hno (e - c) j (by omega) (by rw [stepAt_way, show c + (e - c) = e by omega]; exact e3) (R.hash hj')
theorem look_at (R : S0 P w s.heap a L es ep t) {x : Addr} {k : List Int} (hx : IsT P w s.heap k x) (hu : A.units < cLine) {Q : SetFound → Shared → Prop} (found : k ∈ L.map (·.2) → Q (.there none) s)
    (free : ∀ K, k ∉ L.map (·.2) → way t.mask (thash P w k) K ∉ t.place.toList → (∀ c, c < K → way t.mask (thash P w k) c ∈ t.place.toList) → Q (.free (way t.mask (thash P w k) K) false) s) :
    wpAny (model P w) A (setSearch a (.ref x) (thash P w k) true) Q E s := by
  have rm := R.rm
  obtain ⟨K, k1, k2, k3⟩ := R.tb.first (by rw [List.length_map]; omega) (thash P w k)
  have lt : K < 100000 := by
    have u : SetTable.turns t.mask ≤ 142 := by unfold SetTable.turns; rcases R.tb.mok with e | e | e <;> omega
    omega
  unfold setSearch
  refine look_from R hx hu k1 k2 k3 found (fun q => free K q k2 k3) 100000 0 none rfl (Nat.zero_le _) (by omega) fun i p e1 e2 => ?_
  have e3 : (L.map fun p => thash P w p.2)[i]? = some (thash P w k) := by rw [List.getElem?_map, e1, ← e2]; rfl
  have e4 : i < t.place.toList.length := by
    have l1 := (List.getElem?_eq_some_iff.mp e1).1
    have l2 := R.tb.sz
    rw [List.length_map] at l2
    rw [Array.length_toList, l2]
    exact l1
  have e5 := List.getElem?_eq_getElem e4
  obtain ⟨c, c1, c2⟩ := R.tb.before k2 e3 e5
  exact ⟨c, Nat.zero_le _, c1, by rw [e5, c2]⟩
/-- one more tuple -/
theorem more_at (R : S0 P w s.heap a L es ep t) {x : Addr} {k : List Int} (hx : IsT P w s.heap k x) (hu : A.units < cLine) (lim : L.length + 1 ≤ 76) {Q : Bool → Shared → Prop}
    (hQ : ∀ b h' L' es' ep' t', Heap.SameBut a s.heap h' → S0 P w h' a L' es' ep' t' → (k ∈ L.map (·.2) → L' = L) → (k ∉ L.map (·.2) → L'.Perm ((x, k) :: L)) → Q b { s with heap := h' }) : wpAny (model P w) A (setAddHashed a (.ref x) (thash P w k)) Q E s := by
  by_cases few : L.length + 1 < 64
  · exact add_at ⟨R.at_, R.row, R.tb, R.one, R.tp, R.pl, R.ld, R.rm, by omega⟩ hx hu few fun b h' L' es' ep' t' q1 q2 => hQ b h' L' es' ep' t' q1 (SetTR.s0 q2)
  · have rm := R.rm
    have wide : t.mask = 127 := by rcases R.tb.mok with e | e | e <;> omega
    obtain ⟨o, ho, hex, hd⟩ := R.at_
    have len := R.len
    unfold setAddHashed
    refine wpAny_holding ?_
    rw [show (100000 : Nat) = 99999 + 1 from rfl, setAddHashedIn_succ]
    refine wpAny_bind (wpAny_setState_of ho hd R.fit ?_)
    dsimp only
    refine wp_if_neg (by simp [byScan, Value.scannable]) ?_
    try refine wpAny_bind (wpAny_pure ?_)
    refine wpAny_bind (look_at R hx hu (fun z => wpAny_pure (hQ false s.heap L es ep t (Heap.SameBut.refl a s.heap) R (fun _ => rfl) fun n => absurd z n)) fun K no k2 k3 => ?_)
    dsimp only
    refine wpAny_bind (wpAny_setState_of ho hd R.fit ?_)
    dsimp only
    obtain ⟨q1, q2, q3, q4, q5, q6, q7, q8, q9⟩ := R.tb.put k2 k3
    have pl : (t.put (way t.mask (thash P w k) K)).1.plain = true := q6.trans R.pl
    generalize t.put (way t.mask (thash P w k) K) = pt at q1 q3 q4 q5 q6 q7 q8 q9 pl ⊢
    obtain ⟨t1, p⟩ := pt
    dsimp only at q1 q3 q4 q5 q6 q7 q8 q9 pl ⊢
    subst q1
    first
      | (refine wpAny_bind ?_; refine wp_if_pos pl ?_; refine hashBy_tup hx ?_)
      | refine wp_if_pos pl (wpAny_bind (hashBy_tup hx ?_))
    simp only [if_true]
    have rows : (SetTable.insertAt es (SetTable.below t.place (way t.mask (thash P w k) K)) (thash P w k, Value.ref x)).toList = rowsOf P w (L.take (SetTable.below t.place (way t.mask (thash P w k) K)) ++ (x, k) :: L.drop (SetTable.below t.place (way t.mask (thash P w k) K))) := by
      rw [SetTable.toList_insertAt, rows_put, R.row]
    generalize SetTable.below t.place (way t.mask (thash P w k) K) = p at q2 q3 rows ⊢
    have pm := put_perm L p (x, k)
    have len1 : (L.take p ++ (x, k) :: L.drop p).length = L.length + 1 := pm.length_eq
    rw [show (L.map fun p => thash P w p.2).take p ++ thash P w k :: (L.map fun p => thash P w p.2).drop p = (L.take p ++ (x, k) :: L.drop p).map fun p => thash P w p.2 by rw [List.map_append, List.map_cons, List.map_take, List.map_drop]] at q3
    have one : ((L.take p ++ (x, k) :: L.drop p).map (·.2)).Nodup := (pm.map (·.2)).nodup_iff.mpr (List.nodup_cons.mpr ⟨no, R.one⟩)
    have size1 : (SetTable.insertAt es p (thash P w k, Value.ref x)).size = L.length + 1 := by
      have := congrArg List.length rows
      rw [Array.length_toList] at this
      rw [this, ← len1]
      simp [rowsOf]
    generalize SetTable.insertAt es p (thash P w k, Value.ref x) = es1 at rows size1 ⊢
    generalize L.take p ++ (x, k) :: L.drop p = L1 at pm len1 q3 one rows
    refine wpAny_bind (wpAny_storeSet_of ho hd ?_ (by rw [size1, sizeLine_eq]; omega))
    have sb : Heap.SameBut a s.heap (s.heap.update a (Obj.putSet es1 t1)) := Heap.SameBut.update ..
    have ho1 := store_at (es' := es1) (t' := t1) ho hd
    generalize s.heap.update a (Obj.putSet es1 t1) = h1 at sb ho1 ⊢
    have room : ¬ t1.tooFull = true := by
      unfold SetTable.tooFull
      rw [decide_eq_true_eq, q9, List.length_map, q4, wide]
      omega
    first
      | refine wp_if_neg (by simp [room]) ?_
      | (refine wpAny_bind ?_; refine wp_if_neg (by simp [room]) ?_; refine wpAny_pure ?_)
    refine wpAny_pure (hQ true h1 L1 es1 (ep + 1) t1 sb ⟨⟨_, ho1, ⟨hex.1, hex.2.1, hex.2.2⟩, rfl⟩, rows, q3, one, fun r hr => ?_, pl, by rw [q5]; exact R.ld, by rw [len1, q4, wide]; omega, by omega⟩ (fun z => absurd z no) fun _ => pm)
    rcases List.mem_cons.mp (pm.mem_iff.mp hr) with e | hr
    · rw [e]; exact isT_same hx ho hd sb
    · exact isT_same (R.tp r hr) ho hd sb
theorem S0.keep {h h' : Heap} (R : S0 P w h a L es ep t) (ha : ∀ o, h.get? a = some o → h'.get? a = some o) (ht : ∀ p ∈ L, IsT P w h' p.2 p.1) : S0 P w h' a L es ep t := by
  obtain ⟨o, ho, r⟩ := R.at_
  exact ⟨⟨o, ha o ho, r⟩, R.row, R.tb, R.one, ht, R.pl, R.ld, R.rm, R.lim⟩
/-- set.update's walk over up to 76 tuples -/
theorem fill_loop {I : Addr} {fp wr : List Addr} {G : Array GenState → Array GenState → Prop} {n : Nat} {Pv : Nat → Value → Prop} {St : Nat → Shared → Prop} {R : Result → Shared → Prop} (W : WalksS P w A.in1 I fp wr G n Pv St) {ks : List (Addr × List Int)} (hn : n = ks.length) (lim : ks.length ≤ 76)
    (val : ∀ i v, Pv i v → ∃ p, ks[i]? = some p ∧ v = .ref p.1) {old : Heap} (hk : ∀ p ∈ ks, IsT P w old p.2 p.1) (far : a ∉ fp) (new : old.get? a = none) (newW : ∀ b ∈ wr, old.get? b = none) (hu : A.in1.units < cLine)
    (fin : ∀ s' L es ep t, Moved (a :: wr) G s s' → S0 P w s'.heap a L es ep t → Got ks n L → (∀ b o, old.get? b = some o → s'.heap.get? b = some o) → R (.ok (.ret .none)) s') :
    ∀ (m i : Nat) (z : Shared), i + m = n → St i z → (∀ b o, old.get? b = some o → z.heap.get? b = some o) → (Moved (a :: wr) G s z ∨ z = s) → (∃ L es ep t, S0 P w z.heap a L es ep t ∧ Got ks i L) →
      codeAny (model P w) A (.builtin "set.update.loop" ⟨[.ref a, .ref I], []⟩) R z := by
  have farW : a ∉ wr := fun z => far (W.sub _ z)
  have sub : ∀ b ∈ wr, b ∈ a :: wr := fun b hb => List.mem_cons_of_mem _ hb
  have still : ∀ {z z' : Shared}, Moved wr G z z' → (∀ b o, old.get? b = some o → z.heap.get? b = some o) → ∀ b o, old.get? b = some o → z'.heap.get? b = some o := fun mv kp b o e => mv.heap b o (fun hb => by rw [newW b hb] at e; cases e) (kp b o e)
  have on : ∀ {z z' : Shared}, (Moved (a :: wr) G s z ∨ z = s) → Moved (a :: wr) G z z' → Moved (a :: wr) G s z' := fun c mv => c.elim (fun c => Moved.trans W.gtrans c mv) fun e => e ▸ mv
  intro m
  induction m with
  | zero =>
    rintro i z e st kp mz ⟨L, es, ep, t, S, g⟩
    obtain rfl : i = n := by omega
    refine codeAny_builtin F.entry_set_update_loop ?_
    rw [Around.under_plainId F.plain_set_update_loop _]
    refine wpAny_bind (m := pyNext (.ref I)) (W.done z _ _ st fun z' mv => ?_)
    have kp' := still mv kp
    exact wpAny_pure (fin z' L es ep t (on mz (mv.mono sub)) (S.keep (fun o q => mv.heap a o farW q) fun p hp => isT_keep (hk p (List.mem_of_mem_take (g.sub p hp))) kp') g kp')
  | succ m ih =>
    rintro i z e st kp mz ⟨L, es, ep, t, S, g⟩
    refine codeAny_builtin F.entry_set_update_loop ?_
    rw [Around.under_plainId F.plain_set_update_loop _]
    refine wpAny_bind (m := pyNext (.ref I)) (W.item i z _ _ (by omega) st fun v z' hv st' mv => ?_)
    obtain ⟨p, hp, rfl⟩ := val i v hv
    have kp' := still mv kp
    have hx : IsT P w z'.heap p.2 p.1 := isT_keep (hk p (List.mem_of_getElem? hp)) kp'
    refine wpAny_bind (m := holding [Value.ref p.1] (setAdd a (.ref p.1))) (wpAny_holding ?_)
    unfold setAdd
    refine wpAny_holding (wpAny_bind (wpAny_pyHash_tuple hu hx ?_))
    have gl := g.len
    refine more_at (s := { z' with toks := z'.toks + (p.2.length + 1) }) (S.keep (h' := z'.heap) (fun o q => mv.heap a o farW q) fun q hq => isT_keep (hk q (List.mem_of_mem_take (g.sub q hq))) kp') hx hu (by omega) fun b h' L' es' ep' t' sb S' c1 c2 => ?_
    have g' : Got ks (i + 1) L' := by
      rcases Classical.em (p.2 ∈ L.map (·.2)) with c | c
      · rw [c1 c]; exact g.same hp c
      · exact g.more hp (c2 c)
    refine wpAny_pure ⟨plainId_quiet F.plain_set_update_loop _, ih (i + 1) _ (by omega) (W.frame _ z' _ _ st' (Nat.le_add_right _ _) fun b hb o q => ?_) (fun b o q => ?_) (.inl (on mz ((mv.mono sub).then_heap (Nat.le_add_right _ _) fun b o hb q => ?_))) ⟨L', es', ep', t', S', g'⟩⟩
    · exact (sb.2 b fun c : b = a => far (c ▸ hb)).trans q
    · exact (sb.2 b fun c => by rw [c, new] at q; cases q).trans (kp' b o q)
    · exact (sb.2 b fun c => hb (by rw [c]; exact List.mem_cons_self)).trans q
/-- a new set, empty -/
theorem s0_new {h : Heap} (ho : h.get? a = some { cls := .type "set", dict := none, data := .set #[] 0 (.fresh 0 0 (!w.params.followText "set-order")) }) : S0 P w h a [] #[] 0 (.fresh 0 0 (!w.params.followText "set-order")) := SetTR.s0 (setTR_fresh ho)
end
/-- the set as the heap's picture has it -/
structure SU0 (P : Program) (w : World) (h : Heap) (a : Addr) (L : List (Addr × List Int)) : Prop where
  raw : ∃ (es : Array (Int × Value)) (ep : Nat) (t : SetTable), (∃ o, h.get? a = some o ∧ o.ExactSet ∧ o.data = .set es ep t) ∧ es.toList = rowsOf P w L ∧ TabOk t (L.map fun p => thash P w p.2) ∧ t.plain = true ∧ (w.params.followText "set-order" = true ∨ t.led = true) ∧ L.length * 5 < t.mask * 3
  one : (L.map (·.2)).Nodup
  lim : L.length ≤ 76
def SetUO (P : Program) (w : World) (a : Addr) (L : List (Addr × List Int)) : HO := .ext fun h => SU0 P w h a L
theorem S0.su {P : Program} {w : World} {h : Heap} {a : Addr} {L : List (Addr × List Int)} {es : Array (Int × Value)} {ep : Nat} {t : SetTable} (R : S0 P w h a L es ep t) : SU0 P w h a L :=
  ⟨⟨es, ep, t, R.at_, R.row, R.tb, R.pl, R.ld, R.rm⟩, R.one, R.lim⟩
theorem SU0.back {P : Program} {w : World} {h : Heap} {a : Addr} {L : List (Addr × List Int)} (R : SU0 P w h a L) (ht : ∀ p ∈ L, IsT P w h p.2 p.1) : ∃ es ep t, S0 P w h a L es ep t := by
  obtain ⟨⟨es, ep, t, r1, r2, r3, r4, r5, r6⟩, r7, r8⟩ := R
  exact ⟨es, ep, t, r1, r2, r3, r7, ht, r4, r5, r6, r8⟩
theorem setUO_new {P : Program} {w : World} {H : Hp} {h : Heap} {a : Addr} {L : List (Addr × List Int)} (R : SU0 P w h a L) : ObjOk P w H h a (SetUO P w a L) := by
  have ⟨_, _, _, ⟨o, ho, _⟩, _⟩ := R.raw
  refine ⟨R, ⟨o, ho⟩, fun h1 h2 p k => ?_⟩
  obtain ⟨⟨es', ep', t', ⟨o', ho', r'⟩, q'⟩, q2, q3⟩ := p
  exact ⟨⟨es', ep', t', ⟨o', k o' ho', r'⟩, q'⟩, q2, q3⟩
end Dl

set_option Elab.async false
set_option linter.all false
set_option autoImplicit false
set_option maxRecDepth 100000
set_option maxHeartbeats 1000000
namespace Dl
open PySem L2 PySem.Spec PyProof.Rows PySem.Calls
/-! ### sorted(set(..)), len(set(..)) of ints, of tuples of ints -/
section
variable {P : Program} {w : World} {A : Around} {E : Value → Shared → Prop} {s : Shared}
abbrev newSet (w : World) : Obj := { cls := .type "set", dict := none, data := .set #[] 0 (.fresh 0 0 (!w.params.followText "set-order")) }
/-- what filling the new set S with the items of x leaves -/
def Fill (P : Program) (w : World) (A : Around) (s : Shared) (x : Value) (Z : Shared → Prop) : Prop := ∀ R : Result → Shared → Prop, (∀ z, Z z → R (.ok (.ret .none)) z) →
  codeAny (model P w) A.in1 (.builtin "set.__init__" ⟨[.ref s.heap.objs.size, x], []⟩) R { s with heap := s.heap.push (newSet w) }
theorem set_by {x : Value} {Z : Shared → Prop} {Q : Value → Shared → Prop} (fill : Fill P w A s x Z) (h : ∀ z, Z z → Q (.ref s.heap.objs.size) z) : wpAny (model P w) A (call (.type "set") [x]) Q E s := by
  obtain ⟨_, _, hmro⟩ := F.called_set.mro
  have m1 := F.called_set.made
  have m2 := F.called_set.sub
  refine wpAny_call (codeAny_of_tree (?_ : wpAny _ _ (callAny (.type "set") _) _ _ _))
  refine wpAny_pure ⟨Code.quiet_builtin _ (by decide +kernel), codeAny_builtin F.entry_type_call ?_⟩
  rw [Around.under_plain (weight_type_call_type "set" [x] []) rfl]
  have m3 := F.called_set.notType
  have m4 := F.called_set.canCreate
  have m5 := F.typeCall_set_1 x
  repeat (any_goals (first | assumption | wp_step))
  refine codeAny_mono (code_set_led1 x (E := E) (Q₁ := fun obj z => obj = .ref s.heap.objs.size ∧ z = { s with heap := s.heap.push (newSet w) }) ⟨rfl, rfl⟩) fun r z hr => ?_
  cases r with
  | error e => exact hr
  | ok fl =>
    cases fl with
    | ret obj =>
      obtain ⟨rfl, rfl⟩ := hr
      have hT : Shared.TypeIs { s with heap := s.heap.push (newSet w) } (.ref s.heap.objs.size) "set" := ⟨_, Heap.get?_push_size _ rfl, rfl⟩
      have m6 := F.called_set.init.lookup
      have m7 := F.called_set.init.bind (.ref s.heap.objs.size)
      repeat (any_goals (first | assumption | wp_step))
      refine codeAny_call_builtin_code (Code.quiet_builtin _ (by decide +kernel)) (check_set_init_1 hT ?_)
      refine fill _ fun z hz => ?_
      repeat (any_goals (first | assumption | wp_step))
      exact h z hz
    | _ => exact hr.elim
/-- an array's items, a list's or a tuple's -/
theorem fill_ints {l : Addr} {us : List Value} {ns : List Int} (hh : A.handled = none) (hl : s.heap.IsList l us.toArray) (hi : IntsAre us ns) (hb : ns.length + 1 < scanBound) :
    Fill P w A s (.ref l) fun z => ∃ (h' : Heap) (tk c : Nat), z = { s with heap := h', toks := tk } ∧ SetR w h' s.heap.objs.size (fun j => decide (j ∈ ns)) c ∧ ∀ b o, s.heap.get? b = some o → h'.get? b = some o := by
  intro R hR
  have hz : us.toArray.size = ns.length := by
    have := IntsAre.length hi
    simpa using this
  refine codeAny_builtin F.entry_set_init ?_
  rw [Around.under_plainId F.called_set.init.plain _]
  have hlS : l < s.heap.objs.size := by
    obtain ⟨o, ho, _⟩ := hl
    exact Heap.lt_size ho
  have hl1 : (s.heap.push (newSet w)).IsList l us.toArray := hl.push _
  obtain ⟨⟨lc, ld, lt, lsl⟩, hol, hc, nl, hd⟩ := id hl1
  simp only at hc hd
  subst hc; subst hd
  have f1 := F.sub_list_set
  have f2 := F.sub_list_frozenset
  have f3 : (Value.type "list" == Value.type "dict") = false := by decide
  unfold Builtin.«set.__init__» noKeywords Builtin.Frozenset.updateFrom
  generalize hPI : pyIter = PI
  wp_walk
  subst hPI
  refine wpAny_pyIter_list hl1 (wpAny_bind (wpAny_runValue ?_))
  have sz : (s.heap.push (newSet w)).objs.size = s.heap.objs.size + 1 := Heap.size_push ..
  have n1 : l ≠ (s.heap.push (newSet w)).objs.size := by rw [sz]; exact Nat.ne_of_lt (Nat.lt_succ_of_lt hlS)
  have n2 : s.heap.objs.size ∉ [(s.heap.push (newSet w)).objs.size, l] := by
    rw [sz]
    simp only [List.mem_cons, List.not_mem_nil, or_false, not_or]
    exact ⟨Nat.ne_of_lt (Nat.lt_succ_self _), Nat.ne_of_gt hlS⟩
  have hh' : A.in1.in1.in1.handled = none := by simp [hh]
  have val : ∀ (i : Nat) (v : Value), us.toArray[i]? = some v → ∃ k t, ns[i]? = some k ∧ v = .int k t := fun i v hv => by
    have hin : i < ns.length := by rw [← hz]; exact (Array.getElem?_eq_some_iff.mp hv).1
    obtain ⟨t, e⟩ := IntsAre.int_at hi i v (by simpa using hv)
    exact ⟨ns[i], t, List.getElem?_eq_getElem hin, by rw [e, List.getD_eq_getElem?_getD, List.getElem?_eq_getElem hin]; rfl⟩
  have keep : ∀ b o, s.heap.get? b = some o → ((s.heap.push (newSet w)).push { cls := .type "list_iterator", data := .fields #[.ref l, .int 0 0] }).get? b = some o := fun b o e => Heap.get?_push_of_some _ (Heap.get?_push_of_some _ e)
  refine set_update_ints (Walks.list hh' _ l n1 us.toArray).toS s.heap.objs.size n2 ns hz hb val (us.toArray.size - 0) 0 _ (by omega) (Nat.zero_le _) ⟨⟨_, Heap.get?_push_size _ rfl, rfl, rfl⟩, hl1.push _⟩ ⟨0, Nat.le_refl 0, setR_new_at (Heap.get?_push_of_some _ (Heap.get?_push_size _ rfl))⟩ fun z c mv hc R' => ?_
  obtain ⟨h', g', d', tk, os'⟩ := z
  obtain rfl : g' = s.gens := mv.gens
  obtain rfl : d' = s.drawn := mv.drawn
  obtain rfl : os' = s.os := mv.os
  refine wpAny_pure (wpAny_pure (hR _ ⟨h', tk, c, rfl, R', fun b o e => ?_⟩))
  have hb0 : b < s.heap.objs.size := Heap.lt_size e
  refine mv.heap b o ?_ (keep b o e)
  simp only [List.mem_cons, List.not_mem_nil, or_false, not_or]
  exact ⟨Nat.ne_of_lt hb0, by rw [sz]; exact Nat.ne_of_lt (Nat.lt_succ_of_lt hb0)⟩
theorem fill_tups {l : Addr} {us : List Value} {ks : List (Addr × List Int)} (hh : A.handled = none) (hu : A.units + 64 < cLine) (hl : s.heap.IsList l us.toArray) (he : us = ks.map fun p => Value.ref p.1) (hk : ∀ p ∈ ks, IsT P w s.heap p.2 p.1) (lim : ks.length ≤ 76) :
    Fill P w A s (.ref l) fun z => ∃ (h' : Heap) (tk : Nat) (L : List (Addr × List Int)) (es : Array (Int × Value)) (ep : Nat) (t : SetTable), z = { s with heap := h', toks := tk } ∧ S0 P w h' s.heap.objs.size L es ep t ∧ Got ks ks.length L ∧ ∀ b o, s.heap.get? b = some o → h'.get? b = some o := by
  intro R hR
  have hz : us.toArray.size = ks.length := by rw [he]; simp
  refine codeAny_builtin F.entry_set_init ?_
  rw [Around.under_plainId F.called_set.init.plain _]
  have hlS : l < s.heap.objs.size := by
    obtain ⟨o, ho, _⟩ := hl
    exact Heap.lt_size ho
  have hl1 : (s.heap.push (newSet w)).IsList l us.toArray := hl.push _
  obtain ⟨⟨lc, ld, lt, lsl⟩, hol, hc, nl, hd⟩ := id hl1
  simp only at hc hd
  subst hc; subst hd
  have f1 := F.sub_list_set
  have f2 := F.sub_list_frozenset
  have f3 : (Value.type "list" == Value.type "dict") = false := by decide
  unfold Builtin.«set.__init__» noKeywords Builtin.Frozenset.updateFrom
  generalize hPI : pyIter = PI
  wp_walk
  subst hPI
  refine wpAny_pyIter_list hl1 (wpAny_bind (wpAny_runValue ?_))
  have sz : (s.heap.push (newSet w)).objs.size = s.heap.objs.size + 1 := Heap.size_push ..
  have n1 : l ≠ (s.heap.push (newSet w)).objs.size := by rw [sz]; exact Nat.ne_of_lt (Nat.lt_succ_of_lt hlS)
  have n2 : s.heap.objs.size ∉ [(s.heap.push (newSet w)).objs.size, l] := by
    rw [sz]
    simp only [List.mem_cons, List.not_mem_nil, or_false, not_or]
    exact ⟨Nat.ne_of_lt (Nat.lt_succ_self _), Nat.ne_of_gt hlS⟩
  have hh' : A.in1.in1.in1.handled = none := by simp [hh]
  have val : ∀ (i : Nat) (v : Value), us.toArray[i]? = some v → ∃ p, ks[i]? = some p ∧ v = .ref p.1 := fun i v hv => by
    rw [List.getElem?_toArray, he, List.getElem?_map] at hv
    obtain ⟨p, h1, h2⟩ := Option.map_eq_some_iff.mp hv
    exact ⟨p, h1, h2.symm⟩
  have off : ∀ b, s.heap.objs.size ≤ b → s.heap.get? b = none := fun b hb => by
    cases q : s.heap.get? b with
    | none => rfl
    | some o => exact absurd (Heap.lt_size q) (Nat.not_lt.mpr hb)
  have keep : ∀ b o, s.heap.get? b = some o → ((s.heap.push (newSet w)).push { cls := .type "list_iterator", data := .fields #[.ref l, .int 0 0] }).get? b = some o := fun b o e => Heap.get?_push_of_some _ (Heap.get?_push_of_some _ e)
  have units : A.in1.in1.in1.units ≤ A.units + 3 := by simp [Around.in1]
  refine fill_loop (Walks.list hh' _ l n1 us.toArray).toS hz lim val (old := s.heap) hk n2 (off _ (Nat.le_refl _)) (fun b hb => off b (by rw [List.mem_singleton.mp hb, sz]; omega)) (show A.in1.in1.in1.units < cLine by omega) (fun z L es ep t mv S g k => ?_)
    us.toArray.size 0 _ (by omega) ⟨⟨_, Heap.get?_push_size _ rfl, rfl, rfl⟩, hl1.push _⟩ keep (.inr rfl) ⟨[], #[], 0, _, s0_new (Heap.get?_push_of_some _ (Heap.get?_push_size _ rfl)), Got.zero ks⟩
  obtain ⟨h', g', d', tk, os'⟩ := z
  obtain rfl : g' = s.gens := mv.gens
  obtain rfl : d' = s.drawn := mv.drawn
  obtain rfl : os' = s.os := mv.os
  rw [hz] at g
  exact wpAny_pure (wpAny_pure (hR _ ⟨h', tk, L, es, ep, t, rfl, S, g, k⟩))
end
section
open PySem.W (AllAlike Sortable alike)
/-- without doubles -/
def dd {α : Type} [DecidableEq α] : List α → List α
  | [] => []
  | x :: xs => if x ∈ xs then dd xs else x :: dd xs
theorem mem_dd {α : Type} [DecidableEq α] {y : α} : ∀ xs : List α, y ∈ dd xs ↔ y ∈ xs
  | [] => Iff.rfl
  | x :: xs => by
    unfold dd
    by_cases h : x ∈ xs
    · rw [if_pos h, mem_dd xs, List.mem_cons]
      exact ⟨.inr, fun e => e.elim (fun e => e ▸ h) id⟩
    · rw [if_neg h, List.mem_cons, List.mem_cons, mem_dd xs]
theorem nodup_dd {α : Type} [DecidableEq α] : ∀ xs : List α, (dd xs).Nodup
  | [] => List.nodup_nil
  | x :: xs => by
    unfold dd
    by_cases h : x ∈ xs
    · rw [if_pos h]; exact nodup_dd xs
    · rw [if_neg h, List.nodup_cons, mem_dd]; exact ⟨h, nodup_dd xs⟩
section
variable {P : Program} {w : World} {A : Around} {E : Value → Shared → Prop} {s : Shared}
/-- the keys of a set stand once each -/
theorem setR_count {h : Heap} {a : Addr} {ns : List Int} {c : Nat} (R : SetR w h a (fun j => decide (j ∈ ns)) c) : c = (dd ns).length := by
  obtain ⟨o, es, ep, t, _, _, _, _, nd, hm, _, _, hn, _⟩ := R
  have e : (es.toList.map keyOf).Perm (dd ns) := (List.perm_ext_iff_of_nodup nd (nodup_dd ns)).mpr fun k => by
    rw [← hm k, mem_dd]
    exact decide_eq_true_iff
  have := e.length_eq
  rw [List.length_map, Array.length_toList] at this
  omega
theorem perm_back {α β : Type} {f : α → β} : ∀ {vs : List β} {l : List α}, vs.Perm (l.map f) → ∃ l' : List α, l'.Perm l ∧ l'.map f = vs
  | [], l, h => by
    have : l = [] := by simpa using h.length_eq.symm
    subst this
    exact ⟨[], .refl _, rfl⟩
  | v :: vs, l, h => by
    obtain ⟨q, hq, e⟩ := List.mem_map.mp (h.mem_iff.mp List.mem_cons_self)
    obtain ⟨x, y, rfl⟩ := List.append_of_mem hq
    have hp : (x ++ q :: y).Perm (q :: (x ++ y)) := List.perm_middle
    have h2 := h.trans (hp.map f)
    rw [List.map_cons, e] at h2
    obtain ⟨l', h3, h4⟩ := perm_back ((List.perm_cons v).mp h2)
    exact ⟨q :: l', (h3.cons q).trans hp.symm, by rw [List.map_cons, h4, e]⟩
theorem reads_items {h : Heap} {k : List Int} {us : List Value} (x : ItemsAre (intKind P w) k us) : ∃ as, ReadsAll h us (k.map PyData.int) as := by
  induction x with
  | nil => exact ⟨[], .nil⟩
  | @cons k0 v ks vs h1 _ ih =>
    obtain ⟨t, rfl⟩ := Value.isInt_shape h1
    obtain ⟨as, r⟩ := ih
    exact ⟨_, .cons (.int _ _) r⟩
theorem reads_isT {h : Heap} {k : List Int} {b : Addr} (x : IsT P w h k b) : ∃ as, Reads h (.ref b) (.tuple (k.map PyData.int)) as := by
  obtain ⟨o, items, n, ho, hc, hd, hi⟩ := x
  obtain ⟨as, r⟩ := reads_items (h := h) hi
  exact ⟨as, .tuple ho hc (by simpa using hd) r⟩
/-- Python's order of tuples of ints -/
theorem dataLe_tups {β : Type} (x : β → List Int) : PySem.W.dataLe false (fun b => PyData.tuple ((x b).map PyData.int)) = fun p q => decide (x p ≤ x q) := by
  funext p q
  have e : PySem.W.dataLt (.tuple ((x q).map PyData.int)) (.tuple ((x p).map PyData.int)) = decide (x q < x p) := by
    rw [PySem.W.dataLt_tuple]
    exact PySem.W.dataLt_ints (x q) (x p)
  refine (show PySem.W.dataLe false (fun b => PyData.tuple ((x b).map PyData.int)) p q = !PySem.W.dataLt _ _ from rfl).trans ?_
  rw [e]
  by_cases h : x q < x p
  · rw [decide_eq_true h, decide_eq_false fun r => List.not_lt.mpr r h]; rfl
  · rw [decide_eq_false h, decide_eq_true (List.not_lt.mp h)]; rfl
theorem alike_tups (a b : List Int) : alike (.tuple (a.map PyData.int)) (.tuple (b.map PyData.int)) = true := by
  simpa [alike] using PySem.W.alike_ints a b
theorem each_refs : ∀ {bs : List (Addr × List Int)} {vs : List Value}, PySem.W.EachIs (fun v (b : Addr × List Int) => v = Value.ref b.1) vs bs → vs = bs.map fun q => Value.ref q.1
  | [], _, .nil => rfl
  | _ :: _, _, .cons h t => by rw [List.map_cons, h, each_refs t]
/-- sorted(s), s a set of tuples of ints -/
theorem sorted_setD {a : Addr} {L : List (Addr × List Int)} {es : Array (Int × Value)} {ep : Nat} {t : SetTable} {Q : Value → Shared → Prop} (R : S0 P w s.heap a L es ep t) (hh : A.handled = none) (hu : A.units + 64 < cLine) (hne : ∀ p ∈ L, p.2 ≠ [])
    (hQ : ∀ z p (out : List Value) (c : Nat) (L' : List (Addr × List Int)), (∀ b o, s.heap.get? b = some o → z.heap.get? b = some o) → z.gens = s.gens → z.os = s.os → s.heap.objs.size ≤ p →
      z.heap.get? p = some (seqObj "list" out.toArray c) → out = L'.map (fun q => Value.ref q.1) → L'.Perm L → L'.Pairwise (fun q r => q.2 ≤ r.2) → Q (.ref p) z) :
    wpAny (model P w) A (call (.builtin "sorted") [.ref a]) Q E s := by
  obtain ⟨o, ho, hex, hd⟩ := R.at_
  refine call_function_entry kind_sorted plain_sorted entry_sorted (args_sorted1 _) ?_
  unfold Builtin.«sorted»
  refine wpAny_bind (m := checkCount "sorted" 1 1 _) (wpAny_pure ?_)
  have hsz := R.len
  have hfew := R.lim
  refine wpAny_bind (collect_set (A := A.in1) hh ⟨o, ho, hex.1, hd⟩ R.fit (by unfold scanBound; omega) R.tb.ris R.ld fun z vs keep hz hg hos pm => ?_)
  have rows : es.toList.map (·.2) = L.map fun q => Value.ref q.1 := by
    rw [R.row]
    simp [rowsOf, List.map_map, Function.comp_def]
  rw [rows] at pm
  obtain ⟨L1, p1, rfl⟩ := perm_back pm
  have hlen : L1.length ≤ 76 := by rw [p1.length_eq]; exact hfew
  refine wpAny_bind (wpAny_newList ?_ (by rw [List.length_map, sizeLine_eq]; omega))
  have hol : (z.heap.push (seqObj "list" (L1.map fun q => Value.ref q.1).toArray 0)).get? z.heap.objs.size = some (seqObj "list" (L1.map fun q => Value.ref q.1).toArray 0) := Heap.get?_push_size _ rfl
  have hrd : PySem.W.EachIs (fun v (b : Addr × List Int) => ∃ as, Reads (PySem.W.sortingHeap (z.heap.push (seqObj "list" (L1.map fun q => Value.ref q.1).toArray 0)) z.heap.objs.size (L1.map fun q => Value.ref q.1)) v (.tuple (b.2.map PyData.int)) as) (L1.map fun q => Value.ref q.1) L1 := by
    have gen : ∀ l : List (Addr × List Int), (∀ q ∈ l, q ∈ L) → ∀ h : Heap, (∀ b o, s.heap.get? b = some o → h.get? b = some o) → PySem.W.EachIs (fun v (b : Addr × List Int) => ∃ as, Reads h v (.tuple (b.2.map PyData.int)) as) (l.map fun q => Value.ref q.1) l := by
      intro l
      induction l with
      | nil => exact fun _ _ _ => .nil
      | cons q l ih => exact fun hq h k => .cons (reads_isT (P := P) (w := w) (isT_keep (R.tp q (hq q List.mem_cons_self)) fun b o e => k b o e)) (ih (fun r hr => hq r (List.mem_cons_of_mem _ hr)) h k)
    refine gen L1 (fun q hq => p1.mem_iff.mp hq) _ fun b o e => ?_
    have e1 := keep b o e
    exact PySem.W.sortingHeap_old (Nat.ne_of_lt (Heap.lt_size e1)) (Heap.get?_push_of_some _ e1)
  have hrf : PySem.W.EachIs (fun v (b : Addr × List Int) => v = Value.ref b.1) (L1.map fun q => Value.ref q.1) L1 := by
    have gen : ∀ l : List (Addr × List Int), PySem.W.EachIs (fun v (b : Addr × List Int) => v = Value.ref b.1) (l.map fun q => Value.ref q.1) l := fun l => by
      induction l with
      | nil => exact .nil
      | cons q l ih => exact .cons rfl ih
    exact gen L1
  have hal : AllAlike (L1.map fun b => PyData.tuple (b.2.map PyData.int)) := AllAlike.of (enc := fun b : Addr × List Int => PyData.tuple (b.2.map PyData.int)) fun b c => alike_tups _ _
  have hk : Sortable (L1.map fun b => PyData.tuple (b.2.map PyData.int)) := .inl fun d hd => by
    obtain ⟨b, hb, rfl⟩ := List.mem_map.mp hd
    have := hne b (p1.mem_iff.mp hb)
    cases e : b.2 with
    | nil => exact absurd e this
    | cons x r => exact ⟨_, _, by rw [List.map_cons]⟩
  have hdp : ∀ b : Addr × List Int, (PyData.tuple (b.2.map PyData.int)).depth = 1 := fun b => by
    have := PySem.W.depth_ints b.2
    simp [PyData.depth, this]
  have S : PySem.W.SortsAt P w A.in1.in1 { z with heap := PySem.W.sortingHeap (z.heap.push (seqObj "list" (L1.map fun q => Value.ref q.1).toArray 0)) z.heap.objs.size (L1.map fun q => Value.ref q.1) } _ (L1.map fun q => Value.ref q.1) :=
    PySem.W.SortsAt.data (s := { z with heap := PySem.W.sortingHeap (z.heap.push (seqObj "list" (L1.map fun q => Value.ref q.1).toArray 0)) z.heap.objs.size (L1.map fun q => Value.ref q.1) }) (PySem.W.each_map (R := fun v d => ∃ as, Reads _ v d as) (fun b : Addr × List Int => PyData.tuple (b.2.map PyData.int)) hrd) hal hk fun d hd => by
      obtain ⟨b, _, rfl⟩ := List.mem_map.mp hd
      rw [hdp b]
      have : A.in1.in1.units ≤ A.units + 2 := by simp [Around.in1]
      omega
  have so := PySem.W.sortVals_data (R := fun v (b : Addr × List Int) => v = Value.ref b.1) (enc := fun b : Addr × List Int => PyData.tuple (b.2.map PyData.int)) false hrf hrd hal
  refine wpAny_bind (wpAny_holding (wpAny_call_entry slot_list_sort ⟨_, hol, rfl⟩ entry_list_sort (PySem.W.list_sort_vals (s := { z with heap := z.heap.push (seqObj "list" (L1.map fun q => Value.ref q.1).toArray 0) }) hol S (by rw [List.length_map, sizeLine_eq]; omega) ⟨_, rfl, ?_⟩) (args_list_sort _)))
  obtain ⟨c, hc⟩ := sortedHeap_at (vs := L1.map fun q => Value.ref q.1) (out := (PySem.W.sortVals (PySem.W.dataKind _ (L1.map fun b => PyData.tuple (b.2.map PyData.int))) false (L1.map fun q => Value.ref q.1) (L1.map fun q => Value.ref q.1)).toArray) hol
  rw [dataLe_tups (fun b : Addr × List Int => b.2)] at so
  refine wpAny_pure ⟨_, rfl, hQ _ z.heap.objs.size _ c (L1.mergeSort fun p q => decide (p.2 ≤ q.2)) (fun b u e => ?_) hg hos hz hc ?_ ((List.mergeSort_perm _ _).trans p1) ?_⟩
  · have q := keep b u e
    have hlt := Heap.lt_size q
    refine (sortedHeap_old (Nat.ne_of_lt hlt) (by rw [size_push']; exact Nat.lt_succ_of_lt hlt)).trans ?_
    exact Heap.get?_push_of_some _ q
  · exact each_refs so
  · have := List.pairwise_mergeSort (le := fun p q : Addr × List Int => decide (p.2 ≤ q.2)) (fun a b c h1 h2 => decide_eq_true (List.le_trans (of_decide_eq_true h1) (of_decide_eq_true h2))) (fun a b => by
      rcases List.le_total a.2 b.2 with h | h
      · simp [h]
      · simp [h]) L1
    exact this.imp fun h => of_decide_eq_true h
end
/-! ### as rules -/
section
variable {X : Cx}
/-- set(xs), xs a list of ints -/
def rSetI (K : PySem.W.Frag) (w : World) : List V → Hp → VK → Prop := fun xs H Q => ∃ (l : Addr) (ns : List Int), xs = [V.ref l] ∧ SqL K H l (ns.map V.int) ∧ ns.length < 4000 ∧
  ∀ a, H a = none → Q (.ref a) (upd H a (SetO w a (fun j => decide (j ∈ ns)) (dd ns).length))
theorem cr_setI (hc : X.calm = true) : CallR X (.type "set") (rSetI X.K X.w) := by
  intro pins s σ H xs us Q I r h
  obtain ⟨l, ns, rfl, hl, hb, q⟩ := h
  rw [Vals.ref1 r]
  obtain ⟨its, rv, pl, _⟩ := I.list hl
  have hn : H s.heap.objs.size = none := I.hok.fresh (Nat.le_refl _)
  refine set_by (fill_ints (ns := ns) (I.ok.hd hc) pl.isList (ints_of_vals rv) (by unfold scanBound; omega)) fun z hz => ?_
  obtain ⟨h', tk, c, rfl, R, k⟩ := hz
  obtain rfl := setR_count R
  exact ⟨.ref s.heap.objs.size, upd H s.heap.objs.size _, I.laid (t' := tk) k (Nat.le_refl _) (setO_new R), rfl, q _ hn⟩
/-- sorted(s), s a set of tuples of ints -/
def rSortedTD (K : PySem.W.Frag) (P : Program) (w : World) : List V → Hp → VK → Prop := fun vs H Q => ∃ (a : Addr) (L : List (Addr × List Int)), vs = [V.ref a] ∧ H a = some (SetUO P w a L) ∧ (∀ p ∈ L, SqT K H p.1 (p.2.map V.int)) ∧ (∀ p ∈ L, p.2 ≠ []) ∧
  ∀ (L' : List (Addr × List Int)) (p : Addr), L'.Perm L → (L'.map (·.2)).Nodup → L'.Pairwise (fun q r => q.2 ≤ r.2) → H p = none → Q (.ref p) (upd H p (.lst (L'.map fun q => V.ref q.1)))
theorem cr_sortedTD (hc : X.calm = true) (hu : X.A.units + 64 < cLine) : CallR X (.builtin "sorted") (rSortedTD X.K X.prog X.w) := by
  intro pins s σ H vs us Q I r h
  obtain ⟨a, L, rfl, ha, hk, hne, q⟩ := h
  obtain ⟨es, ep, t, R⟩ := SU0.back (I.hok a _ ha).1 fun p hp => I.isT (hk p hp)
  rw [Vals.ref1 r]
  refine sorted_setD R (I.ok.hd hc) hu hne fun z p out c L' k g o hp hg hout pm pw => ?_
  subst hout
  have hfew : L'.length ≤ 76 := by rw [pm.length_eq]; exact R.lim
  have hn : H p = none := I.hok.fresh hp
  have J : Inv X pins σ (upd H p (.lst (L'.map fun q => V.ref q.1))) { s with heap := z.heap, gens := z.gens, drawn := z.drawn, toks := z.toks } :=
    I.call (ch := []) (Un.laid k hp hn) (I.hok.laid k hp ⟨by rw [List.length_map, sizeLine_eq]; omega, _, c, vals_of_refs L', hg⟩) (by rw [g]; exact I.bare) (fun _ x => nomatch x)
  obtain ⟨zh, zg, zd, zt, zo⟩ := z
  obtain rfl : zo = s.os := o
  exact ⟨.ref p, _, J, rfl, q L' p pm ((pm.map (·.2)).nodup_iff.mpr R.one) pw hn⟩
/-- set(xs), xs a list of tuples of ints -/
def rSetU (K : PySem.W.Frag) (P : Program) (w : World) : List V → Hp → VK → Prop := fun xs H Q => ∃ (l : Addr) (ks : List (Addr × List Int)), xs = [V.ref l] ∧ SqL K H l (ks.map fun p => V.ref p.1) ∧ (∀ p ∈ ks, SqT K H p.1 (p.2.map V.int)) ∧ ks.length ≤ 76 ∧
  ∀ a L, H a = none → (∀ p ∈ L, p ∈ ks) → (∀ p ∈ ks, p.2 ∈ L.map (·.2)) → Q (.ref a) (upd H a (SetUO P w a L))
theorem cr_setU (hc : X.calm = true) (hu : X.A.units + 64 < cLine) : CallR X (.type "set") (rSetU X.K X.prog X.w) := by
  intro pins s σ H xs us Q I r h
  obtain ⟨l, ks, rfl, hl, hk, lim, q⟩ := h
  rw [Vals.ref1 r]
  obtain ⟨its, rv, pl, _⟩ := I.list hl
  have hn : H s.heap.objs.size = none := I.hok.fresh (Nat.le_refl _)
  refine set_by (fill_tups (P := X.prog) (w := X.w) (ks := ks) (I.ok.hd hc) hu pl.isList (refs_of_vals rv) (fun p hp => I.isT (hk p hp)) lim) fun z hz => ?_
  obtain ⟨h', tk, L, es, ep, t, rfl, S, g, k⟩ := hz
  exact ⟨.ref s.heap.objs.size, upd H s.heap.objs.size _, I.laid (t' := tk) k (Nat.le_refl _) (setUO_new S.su), rfl, q _ L hn (fun p hp => List.mem_of_mem_take (g.sub p hp)) fun p hp => g.all p (by rw [List.take_length]; exact hp)⟩
end
end
section
variable {X : Cx}
/-- set(t), t a tuple of ints -/
def rSetTI (K : PySem.W.Frag) (w : World) : List V → Hp → VK → Prop := fun xs H Q => ∃ (l : Addr) (ns : List Int), xs = [V.ref l] ∧ SqT K H l (ns.map V.int) ∧ ns.length < 4000 ∧
  ∀ a, H a = none → Q (.ref a) (upd H a (SetO w a (fun j => decide (j ∈ ns)) (dd ns).length))
theorem cr_setTI (hc : X.calm = true) : CallR X (.type "set") (rSetTI X.K X.w) := by
  intro pins s σ H xs us Q I r h
  obtain ⟨l, ns, rfl, hl, hb, q⟩ := h
  rw [Vals.ref1 r]
  obtain ⟨its, rv, pl, _⟩ := I.tuple hl
  have hn : H s.heap.objs.size = none := I.hok.fresh (Nat.le_refl _)
  refine call_set_tupI ns (I.ok.hd hc) (show s.heap.IsTuple l its.toArray from pl) (ints_of_vals rv) (by unfold scanBound; omega) fun h' tk c R _ k => ?_
  obtain rfl := setR_count R
  exact ⟨.ref s.heap.objs.size, upd H s.heap.objs.size _, I.laid (t' := tk) k (Nat.le_refl _) (setO_new R), rfl, q _ hn⟩
/-- len(s), s a set of ints -/
def rLenSO (w : World) : List V → Hp → VK → Prop := fun xs H Q => ∃ (a : Addr) (S : Int → Bool) (n : Nat), xs = [V.ref a] ∧ H a = some (SetO w a S n) ∧ n < 4000 ∧ Q (.int (n : Nat)) H
theorem cr_lenSO : CallR X (.builtin "len") (rLenSO X.w) := by
  intro pins s σ H xs us Q I r h
  obtain ⟨a, S, n, rfl, ha, hb, q⟩ := h
  rw [Vals.ref1 r]
  obtain ⟨o, es, ep, t, ho, hex, hd, _, _, _, _, hf, hn, _⟩ := setO_get I ha
  exact PySem.call_len_set ho hex hd hf (by rw [hn]; omega) ⟨.int n, H, I.tok _, ⟨_, by rw [hn]⟩, q⟩
/-- the rows of ints that data are -/
def rowsD : List D → Option (List (List Int))
  | [] => some []
  | .tuple ds :: es => (intsOf ds).bind fun ns => (rowsD es).map fun r => ns :: r
  | _ :: _ => none
def tupD (ns : List Int) : D := .tuple (ns.map PyData.int)
theorem rowsD_eq : ∀ {ds : List D} {ls : List (List Int)}, rowsD ds = some ls → ds = ls.map tupD
  | [], _, h => by cases h; rfl
  | .tuple xs :: es, ls, h => by
    obtain ⟨ns, h1, h⟩ := Option.bind_eq_some_iff.mp h
    obtain ⟨r, h2, h⟩ := Option.map_eq_some_iff.mp h
    subst h
    rw [intsOf_eq h1, rowsD_eq h2]
    rfl
  | .none :: _, _, h => by cases h
  | .bool _ :: _, _, h => by cases h
  | .int _ :: _, _, h => by cases h
  | .str _ :: _, _, h => by cases h
  | .list _ :: _, _, h => by cases h
  | .dict _ :: _, _, h => by cases h
theorem rowsD_map : ∀ ls : List (List Int), rowsD (ls.map tupD) = some ls
  | [] => rfl
  | l :: ls => by
    show (intsOf (l.map PyData.int)).bind _ = _
    rw [intsOf_map, Option.bind_some, rowsD_map ls]
    rfl
/-- sorted, without doubles -/
def ssI (ns : List Int) : List Int := (dd ns).mergeSort fun a b => decide (a ≤ b)
def ssT (ls : List (List Int)) : List (List Int) := (dd ls).mergeSort fun a b => decide (a ≤ b)
theorem strict_one {α : Type} {r : α → α → Prop} (as : ∀ a b, r a b → r b a → False) : ∀ {xs ys : List α}, xs.Pairwise r → ys.Pairwise r → (∀ z, z ∈ xs ↔ z ∈ ys) → xs = ys
  | [], [], _, _, _ => rfl
  | [], y :: ys, _, _, h => by have := (h y).mpr List.mem_cons_self; cases this
  | x :: xs, [], _, _, h => by have := (h x).mp List.mem_cons_self; cases this
  | x :: xs, y :: ys, h1, h2, h => by
    obtain ⟨a1, a2⟩ := List.pairwise_cons.mp h1
    obtain ⟨b1, b2⟩ := List.pairwise_cons.mp h2
    have e : x = y := by
      rcases List.mem_cons.mp ((h x).mp List.mem_cons_self) with e | e
      · exact e
      · rcases List.mem_cons.mp ((h y).mpr List.mem_cons_self) with e' | e'
        · exact e'.symm
        · exact (as x y (a1 y e') (b1 x e)).elim
    subst e
    have ne : ∀ z, r x z → z ≠ x := fun z hz e => by subst e; exact as z z hz hz
    rw [strict_one as a2 b2 fun z => ⟨fun hz => ?_, fun hz => ?_⟩]
    · exact (List.mem_cons.mp ((h z).mp (List.mem_cons_of_mem _ hz))).resolve_left (ne z (a1 z hz))
    · exact (List.mem_cons.mp ((h z).mpr (List.mem_cons_of_mem _ hz))).resolve_left (ne z (b1 z hz))
theorem le_strict {α : Type} {le : α → α → Prop} {xs : List α} (h : xs.Pairwise le) (n : xs.Nodup) : xs.Pairwise fun a b => le a b ∧ a ≠ b := by
  induction xs with
  | nil => exact .nil
  | cons x xs ih =>
    obtain ⟨a1, a2⟩ := List.pairwise_cons.mp h
    obtain ⟨b1, b2⟩ := List.nodup_cons.mp n
    exact List.pairwise_cons.mpr ⟨fun y hy => ⟨a1 y hy, fun e => b1 (e ▸ hy)⟩, ih a2 b2⟩
theorem ssI_mem {k : Int} (ns : List Int) : k ∈ ssI ns ↔ k ∈ ns := by
  unfold ssI
  rw [(List.mergeSort_perm _ _).mem_iff, mem_dd]
theorem ssI_sorted (ns : List Int) : (ssI ns).Pairwise (· < ·) := by
  have h := List.pairwise_mergeSort (le := fun a b : Int => decide (a ≤ b)) (fun a b c h1 h2 => decide_eq_true (Int.le_trans (of_decide_eq_true h1) (of_decide_eq_true h2))) (fun a b => by
    rcases Int.le_total a b with h | h
    · simp [h]
    · simp [h]) (dd ns)
  have n : (ssI ns).Nodup := ((List.mergeSort_perm _ _).nodup_iff).mpr (nodup_dd ns)
  exact (le_strict h n).imp fun ⟨h1, h2⟩ => by
    have := of_decide_eq_true h1
    omega
theorem ssT_mem {k : List Int} (ls : List (List Int)) : k ∈ ssT ls ↔ k ∈ ls := by
  unfold ssT
  rw [(List.mergeSort_perm _ _).mem_iff, mem_dd]
theorem ssT_sorted (ls : List (List Int)) : (ssT ls).Pairwise fun a b => a ≤ b ∧ a ≠ b := by
  have h := List.pairwise_mergeSort (le := fun a b : List Int => decide (a ≤ b)) (fun a b c h1 h2 => decide_eq_true (List.le_trans (of_decide_eq_true h1) (of_decide_eq_true h2))) (fun a b => by
    rcases List.le_total a b with h | h
    · simp [h]
    · simp [h]) (dd ls)
  have n : (ssT ls).Nodup := ((List.mergeSort_perm _ _).nodup_iff).mpr (nodup_dd ls)
  exact (le_strict h n).imp fun ⟨h1, h2⟩ => ⟨of_decide_eq_true h1, h2⟩
theorem ssI_one {ns ms : List Int} (h : ms.Pairwise (· < ·)) (hm : ∀ k, k ∈ ms ↔ k ∈ ns) : ms = ssI ns :=
  strict_one (fun a b h1 h2 => by omega) h (ssI_sorted ns) fun z => by rw [hm, ssI_mem]
theorem ssT_one {ls ms : List (List Int)} (h : ms.Pairwise fun a b => a ≤ b ∧ a ≠ b) (hm : ∀ k, k ∈ ms ↔ k ∈ ls) : ms = ssT ls :=
  strict_one (fun a b h1 h2 => h1.2 (List.le_antisymm h1.1 h2.1)) h (ssT_sorted ls) fun z => by rw [hm, ssT_mem]
/-- sorted(set(..)) of ints, of tuples of ints -/
def dSS (d : D) : Option (List D) := match d with
  | .list ds => match intsOf ds with
    | some ns => if ns.length < 4000 ∧ (dd ns).length < 64 then some ((ssI ns).map PyData.int) else none
    | none => (rowsD ds).bind fun ls => if ls.length < 76 ∧ (ls.all fun l => !l.isEmpty) = true then some ((ssT ls).map tupD) else none
  | _ => none
/-- len(set(..)) of ints -/
def dLenS (d : D) : Option D := (dItems d).bind fun ds => (intsOf ds).bind fun ns => if ns.length < 4000 then some (.int ((dd ns).length : Nat)) else none
def rTwo (r1 r2 : List V → Hp → VK → Prop) : List V → Hp → VK → Prop := fun vs H Q => r1 vs H fun x H2 => r2 [x] H2 Q
theorem CallR.two_or {f : Value} {r r' : List V → Hp → VK → Prop} (h : CallR X f r) (h' : CallR X f r') : CallR X f (fun vs H Q => r vs H Q ∨ r' vs H Q) := CallR.or h h'
theorem dd_le {α : Type} [DecidableEq α] : ∀ xs : List α, (dd xs).length ≤ xs.length
  | [] => Nat.le_refl _
  | x :: xs => by
    have := dd_le xs
    unfold dd
    split
    · rw [List.length_cons]; omega
    · rw [List.length_cons, List.length_cons]; omega
theorem cd_lenS {K : PySem.W.Frag} {w : World} : CallD (rTwo (fun vs H Q => rSetI K w vs H Q ∨ rSetTI K w vs H Q) (rLenSO w)) (F1 dLenS) := by
  intro G H vs ds z Q gh r hF k
  have key : ∀ {p : Addr} {es : List D} {ws : List V}, RpL G ws es → (intsOf es).bind (fun ns => if ns.length < 4000 then some (PyData.int ((dd ns).length : Nat)) else none) = some z → ∃ ns : List Int, ws = ns.map V.int ∧ ns.length < 4000 ∧
      ∀ a, H a = none → rLenSO w [V.ref a] (upd H a (SetO w a (fun j => decide (j ∈ ns)) (dd ns).length)) Q := fun {p es ws} r hF => by
    obtain ⟨ns, h1, h2⟩ := Option.bind_eq_some_iff.mp hF
    by_cases h : ns.length < 4000
    · rw [if_pos h] at h2
      cases h2
      have e := intsOf_eq h1
      subst e
      refine ⟨ns, RpL.ints r, h, fun a ha => ⟨a, _, _, rfl, upd_same, by have := dd_le ns; omega, ?_⟩⟩
      obtain ⟨g, s⟩ := grow_own gh ha (SetO w a (fun j => decide (j ∈ ns)) (dd ns).length)
      exact k _ G _ g s (.int _)
    · rw [if_neg h] at h2; cases h2
  cases r with
  | nil => cases hF
  | cons a b =>
    cases b with
    | cons _ _ => cases hF
    | nil =>
      cases a with
      | @lst p ws es hp r =>
        obtain ⟨ns, rfl, hl, f⟩ := key (p := p) r hF
        exact .inl ⟨p, ns, rfl, SqL.of (gh _ _ hp), hl, f⟩
      | @tup p ws es hp r =>
        obtain ⟨ns, rfl, hl, f⟩ := key (p := p) r hF
        exact .inr ⟨p, ns, rfl, hp.sqm gh, hl, f⟩
      | _ => cases hF
end
theorem upd_none {H : Hp} {a p : Addr} {o : HO} (h : upd H a o p = none) : H p = none ∧ p ≠ a := by
  by_cases e : p = a
  · subst e; rw [upd_same] at h; cases h
  · rw [upd_ne e] at h; exact ⟨h, e⟩
theorem rpl_tups {G : Hp} : ∀ {ls : List (List Int)} {ws : List V}, RpL G ws (ls.map tupD) → ∃ ks : List (Addr × List Int), ws = ks.map (fun p => V.ref p.1) ∧ ks.map (·.2) = ls ∧ ∀ p ∈ ks, Tu G p.1 (p.2.map V.int)
  | [], _, h => by cases h; exact ⟨[], rfl, rfl, fun _ h => nomatch h⟩
  | l :: ls, _, h => by
    cases h with
    | cons a b =>
      obtain ⟨ks, rfl, h2, h3⟩ := rpl_tups b
      cases a with
      | @tup p vs ds hp r =>
        obtain rfl := RpL.ints r
        refine ⟨(p, l) :: ks, rfl, by rw [List.map_cons, h2], fun q hq => ?_⟩
        rcases List.mem_cons.mp hq with rfl | hq
        · exact hp
        · exact h3 q hq
theorem rpl_ofTups {G : Hp} : ∀ {ks : List (Addr × List Int)}, (∀ p ∈ ks, Tu G p.1 (p.2.map V.int)) → RpL G (ks.map fun p => V.ref p.1) ((ks.map (·.2)).map tupD)
  | [], _ => .nil
  | p :: ks, h => .cons (.tup (h p List.mem_cons_self) RpL.ofInts) (rpl_ofTups fun q hq => h q (List.mem_cons_of_mem _ hq))
theorem cd_ss {K : PySem.W.Frag} {P : Program} {w : World} : CallDL (rTwo (fun vs H Q => rSetI K w vs H Q ∨ rSetU K P w vs H Q) (fun vs H Q => rSortedSet w vs H Q ∨ rSortedTD K P w vs H Q)) (F1 dSS) := by
  intro G H vs ds z Q gh r hF k
  cases r with
  | nil => cases hF
  | cons a b =>
    cases b with
    | cons _ _ => cases hF
    | nil =>
      cases a with
      | @lst l ws es hp r =>
        have hF : dSS (.list es) = some z := hF
        unfold dSS at hF
        cases hi : intsOf es with
        | some ns =>
          simp only [hi] at hF
          by_cases h : ns.length < 4000 ∧ (dd ns).length < 64
          · rw [if_pos h] at hF
            cases hF
            obtain rfl := intsOf_eq hi
            obtain rfl := RpL.ints r
            refine .inl ⟨l, ns, rfl, SqL.of (gh _ _ hp), h.1, fun a ha => .inl ⟨a, _, _, rfl, upd_same, h.2, fun ms p h1 h2 h3 hpn => ?_⟩⟩
            obtain ⟨g1, s1⟩ := grow_own gh ha (SetO w a (fun j => decide (j ∈ ns)) (dd ns).length)
            obtain ⟨g2, s2⟩ := grow_own s1 hpn (.lst (ms.map V.int))
            obtain ⟨hpn', _⟩ := upd_none hpn
            have e : ms = ssI ns := ssI_one h1 fun k => by rw [h2 k]; exact decide_eq_true_iff
            refine k p _ G _ (g1.trans (fun _ h => h.elim) g2) s2 hpn' (gh.free hpn') upd_same ?_
            rw [e]
            exact RpL.ofInts
          · rw [if_neg h] at hF; cases hF
        | none =>
          simp only [hi] at hF
          obtain ⟨ls, h1, h2⟩ := Option.bind_eq_some_iff.mp hF
          by_cases h : ls.length < 76 ∧ (ls.all fun l => !l.isEmpty) = true
          · rw [if_pos h] at h2
            cases h2
            obtain rfl := rowsD_eq h1
            obtain ⟨ks, rfl, rfl, hk⟩ := rpl_tups r
            refine .inr ⟨l, ks, rfl, SqL.of (gh _ _ hp), fun p hp => (hk p hp).sqm gh, by have := h.1; rw [List.length_map] at this; omega, fun a L ha hsub hall => .inr ⟨a, L, rfl, upd_same, fun p hpL => ?_, fun p hpL => ?_, fun L' p pm nd pw hpn => ?_⟩⟩
            · obtain ⟨o, ho, e⟩ := (hk p (hsub p hpL)).mono gh
              exact Tu.sq ⟨o, ho, by rw [upd_ne (ne_of_none e ha)]; exact e⟩
            · have := List.all_eq_true.mp h.2 p.2 (List.mem_map_of_mem (hsub p hpL))
              intro e
              rw [e] at this
              cases this
            · obtain ⟨g1, s1⟩ := grow_own gh ha (SetUO P w a L)
              obtain ⟨g2, s2⟩ := grow_own s1 hpn (.lst (L'.map fun q => V.ref q.1))
              obtain ⟨hpn', _⟩ := upd_none hpn
              have e : L'.map (·.2) = ssT (ks.map (·.2)) := by
                refine ssT_one ?_ fun k => ?_
                · refine le_strict (le := fun a b => a ≤ b) (List.pairwise_map.mpr pw) nd
                · constructor
                  · intro hm
                    obtain ⟨q, hq, rfl⟩ := List.mem_map.mp hm
                    exact List.mem_map_of_mem (hsub q (pm.mem_iff.mp hq))
                  · intro hm
                    obtain ⟨q, hq, rfl⟩ := List.mem_map.mp hm
                    obtain ⟨q', hq', e⟩ := List.mem_map.mp (hall q hq)
                    rw [← e]
                    exact List.mem_map_of_mem (pm.mem_iff.mpr hq')
              refine k p _ G _ (g1.trans (fun _ h => h.elim) g2) s2 hpn' (gh.free hpn') upd_same ?_
              rw [← e]
              exact rpl_ofTups fun q hq => hk q (hsub q (pm.mem_iff.mp hq))
          · rw [if_neg h] at h2; cases h2
      | _ => cases hF
section
variable {X : Cx} {R : Res} {ρ : List Cell} {e : Expr} {n : Nat} {x y : Str} {id T : String} {p p2 pos pos2 : Pos} {r1 r2 : List V → Hp → VK → Prop}
theorem jl_two {F : List D → Option (List D)} {Ts : M (List D)} (hr1 : CallR X (.type T) r1) (hr2 : CallR X (.builtin id) r2) (hF : CallDL (rTwo r1 r2) F) (hm : X.mg x = none) (hv : bootBuiltins x = some (.type T)) (hm2 : X.mg y = none) (hv2 : bootBuiltins y = some (.builtin id)) (ha : JA X R ρ [e] n Ts)
    (hg : Gl X x := by rfl) (hn : x ≠ "__name__" := by decide) (hdb : (x == ("__debug__" : Str)) = false := by decide) (hg2 : Gl X y := by rfl) (hn2 : y ≠ "__name__" := by decide) (hdb2 : (y == ("__debug__" : Str)) = false := by decide)
    (he : starEach [e] X.env = (false, eval e X.env) :: starEach [] X.env := by rfl) (hpl : (backTo pos2 (starEach [] X.env)).any (·.1) = false := by rfl)
    (he2 : starEach [.Call (.Name x p2) [e] [] pos2] X.env = (false, eval (.Call (.Name x p2) [e] [] pos2) X.env) :: starEach [] X.env := by rfl) (hpl2 : (backTo pos (starEach [] X.env)).any (·.1) = false := by rfl) :
    JL X R ρ (.Call (.Name y p) [.Call (.Name x p2) [e] [] pos2] [] pos) (fun q => Ts fun ds => lift (F ds) q) :=
  PE.imp (pe_callB hr2 hg2 hm2 hv2 (pa_cons (pe_callTy hr1 hg hm hv ha hn hdb he hpl) pa_nil he2) hn2 hdb2 he2 hpl2) (call_readL hF)
theorem jm_two {F : List D → Option D} {Ts : M (List D)} (hr1 : CallR X (.type T) r1) (hr2 : CallR X (.builtin id) r2) (hF : CallD (rTwo r1 r2) F) (hm : X.mg x = none) (hv : bootBuiltins x = some (.type T)) (hm2 : X.mg y = none) (hv2 : bootBuiltins y = some (.builtin id)) (ha : JA X R ρ [e] n Ts)
    (hg : Gl X x := by rfl) (hn : x ≠ "__name__" := by decide) (hdb : (x == ("__debug__" : Str)) = false := by decide) (hg2 : Gl X y := by rfl) (hn2 : y ≠ "__name__" := by decide) (hdb2 : (y == ("__debug__" : Str)) = false := by decide)
    (he : starEach [e] X.env = (false, eval e X.env) :: starEach [] X.env := by rfl) (hpl : (backTo pos2 (starEach [] X.env)).any (·.1) = false := by rfl)
    (he2 : starEach [.Call (.Name x p2) [e] [] pos2] X.env = (false, eval (.Call (.Name x p2) [e] [] pos2) X.env) :: starEach [] X.env := by rfl) (hpl2 : (backTo pos (starEach [] X.env)).any (·.1) = false := by rfl) :
    JM X R ρ (.Call (.Name y p) [.Call (.Name x p2) [e] [] pos2] [] pos) (fun q => Ts fun ds => lift (F ds) q) :=
  PE.imp (pe_callB hr2 hg2 hm2 hv2 (pa_cons (pe_callTy hr1 hg hm hv ha hn hdb he hpl) pa_nil he2) hn2 hdb2 he2 hpl2) (call_read hF)
end
section
variable {X : Cx} {R : Res} {ρ : List Cell} {e a b : Expr} {n : Nat} {x y : Str} {id T : String} {p p2 pos pos2 : Pos} {r1 r2 : List V → Hp → VK → Prop}
theorem jle_two {F : List D → Option (List D)} {os : Option (List D)} (hr1 : CallR X (.type T) r1) (hr2 : CallR X (.builtin id) r2) (hF : CallDL (rTwo r1 r2) F) (hm : X.mg x = none) (hv : bootBuiltins x = some (.type T)) (hm2 : X.mg y = none) (hv2 : bootBuiltins y = some (.builtin id)) (ha : JAE X R ρ [e] n os)
    (hg : Gl X x := by rfl) (hn : x ≠ "__name__" := by decide) (hdb : (x == ("__debug__" : Str)) = false := by decide) (hg2 : Gl X y := by rfl) (hn2 : y ≠ "__name__" := by decide) (hdb2 : (y == ("__debug__" : Str)) = false := by decide)
    (he : starEach [e] X.env = (false, eval e X.env) :: starEach [] X.env := by rfl) (hpl : (backTo pos2 (starEach [] X.env)).any (·.1) = false := by rfl)
    (he2 : starEach [.Call (.Name x p2) [e] [] pos2] X.env = (false, eval (.Call (.Name x p2) [e] [] pos2) X.env) :: starEach [] X.env := by rfl) (hpl2 : (backTo pos (starEach [] X.env)).any (·.1) = false := by rfl) :
    JLE X R ρ (.Call (.Name y p) [.Call (.Name x p2) [e] [] pos2] [] pos) (os.bind F) := (jl_two hr1 hr2 hF hm hv hm2 hv2 ha hg hn hdb hg2 hn2 hdb2 he hpl he2 hpl2).imp fun _ _ => liftF
theorem je_two {F : List D → Option D} {os : Option (List D)} (hr1 : CallR X (.type T) r1) (hr2 : CallR X (.builtin id) r2) (hF : CallD (rTwo r1 r2) F) (hm : X.mg x = none) (hv : bootBuiltins x = some (.type T)) (hm2 : X.mg y = none) (hv2 : bootBuiltins y = some (.builtin id)) (ha : JAE X R ρ [e] n os)
    (hg : Gl X x := by rfl) (hn : x ≠ "__name__" := by decide) (hdb : (x == ("__debug__" : Str)) = false := by decide) (hg2 : Gl X y := by rfl) (hn2 : y ≠ "__name__" := by decide) (hdb2 : (y == ("__debug__" : Str)) = false := by decide)
    (he : starEach [e] X.env = (false, eval e X.env) :: starEach [] X.env := by rfl) (hpl : (backTo pos2 (starEach [] X.env)).any (·.1) = false := by rfl)
    (he2 : starEach [.Call (.Name x p2) [e] [] pos2] X.env = (false, eval (.Call (.Name x p2) [e] [] pos2) X.env) :: starEach [] X.env := by rfl) (hpl2 : (backTo pos (starEach [] X.env)).any (·.1) = false := by rfl) :
    JE X R ρ (.Call (.Name y p) [.Call (.Name x p2) [e] [] pos2] [] pos) (os.bind F) := (jm_two hr1 hr2 hF hm hv hm2 hv2 ha hg hn hdb hg2 hn2 hdb2 he hpl he2 hpl2).imp fun _ _ => liftF
theorem cr_setAny {k : Nat} (B : Bx X k) : CallR X (.type "set") (fun vs H Q => rSetI X.K X.w vs H Q ∨ rSetU X.K X.prog X.w vs H Q) := CallR.or (cr_setI B.hc) (cr_setU B.hc B.u64)
theorem cr_setIn {k : Nat} (B : Bx X k) : CallR X (.type "set") (fun vs H Q => rSetI X.K X.w vs H Q ∨ rSetTI X.K X.w vs H Q) := CallR.or (cr_setI B.hc) (cr_setTI B.hc)
theorem cr_sortSet {k : Nat} (B : Bx X k) : CallR X (.builtin "sorted") (fun vs H Q => rSortedSet X.w vs H Q ∨ rSortedTD X.K X.prog X.w vs H Q) := CallR.or (cr_sortedSet B.hc) (cr_sortedTD B.hc B.u64)
/-! ### a module's constant -/
theorem je_glob {i : Int} {t : Tok} (hm : X.mg x = some (.int i t)) (hg : Gl X x := by rfl) (hd : (x == ("__debug__" : Str)) = false := by decide) : JE X R ρ (.Name x pos) (some (.int i)) :=
  PE.imp (pe_glob (v := .int i) hg hm ⟨t, rfl⟩ hd) fun _ H _ ⟨G, m, _, S, h, c⟩ => c _ _ G H m S (Grow.refl _ _ _) (.int i) (lift_some' h)
/-! ### a new list xs * n -/
def OpDL (r : R2) (f : D → D → Option (List D)) : Prop := ∀ (G H : Hp) (x y : V) (d e : D) (z : List D) (Q : VK), Same G H → Rp G x d → Rp G y e → f d e = some z →
  (∀ p ws G' H', Grow (fun _ => False) G H G' H' → Same G' H' → H p = none → G' p = none → H' p = some (.lst ws) → RpL G' ws z → Q (.ref p) H') → r x y H Q
theorem jle_op {op : Operator} {r : R2} {f : D → D → Option (List D)} {oa ob : Option D} (hr : OpR X (binaryOp op) r) (ho : OpDL r f) (ha : JE X R ρ a oa) (hb : JE X R ρ b ob) : JLE X R ρ (.BinOp a op b pos) (C2 f oa ob) := by
  refine PE.imp (pe_op hr ha hb) fun σ H Q ⟨G, m, q, S, t, c⟩ => ?_
  obtain ⟨z, hz, q1⟩ := t
  obtain ⟨xa, h1, hz⟩ := Option.bind_eq_some_iff.mp hz
  obtain ⟨xb, h2, hz⟩ := Option.bind_eq_some_iff.mp hz
  refine ⟨G, m, fun d m1 => d = xa ∧ m1 = m, S, ⟨xa, h1, rfl, rfl⟩, fun v d G1 H1 m1 S1 g1 r1 e1 => ?_⟩
  obtain ⟨rfl, rfl⟩ := e1
  refine ⟨G1, m1, fun d m2 => d = xb ∧ m2 = m1, S1, ⟨xb, h2, rfl, rfl⟩, fun w e G2 H2 m2 S2 g2 r2 e2 => ?_⟩
  obtain ⟨rfl, rfl⟩ := e2
  refine ho G2 H2 v w d e z Q S2.gh (r1.mono g2.gg) r2 hz fun p ws G3 H3 g3 s3 hp gp hp3 r3 => ?_
  obtain ⟨S3, g3'⟩ := S2.growS g3 s3
  exact c p ws z G3 H3 m2 S3 ((g1.trans S1.vh g2).trans S2.vh g3') (free_of (g1.trans S1.vh g2) S2.vh hp) gp hp3 r3 q1
def dRepL : D → D → Option (List D)
  | .list xs, .int k => if decide (-(2 ^ 63) ≤ k ∧ k < 2 ^ 63 ∧ xs.length * k.toNat ≤ sizeLine) = true then some (List.replicate k.toNat xs).flatten else none
  | _, _ => none
theorem od_repL : OpDL rRep dRepL := by
  intro G H x y d e z Q gh rx ry hf k
  cases rx with
  | @lst p vs ds hp r =>
    cases ry with
    | int n =>
      simp only [dRepL, Option.ite_none_right_eq_some, Option.some.injEq, decide_eq_true_eq] at hf
      obtain ⟨⟨h1, h2, h3⟩, rfl⟩ := hf
      refine ⟨p, n, vs, rfl, rfl, gh _ _ hp, h1, h2, by rw [r.length]; exact h3, fun q hq => ?_⟩
      obtain ⟨g, s⟩ := grow_own gh hq (.lst (List.replicate n.toNat vs).flatten)
      exact k q _ G _ g s hq (gh.free hq) upd_same (rep_rp r _)
    | _ => cases hf
  | _ => cases hf
end
end Dl

set_option Elab.async false
set_option linter.all false
set_option autoImplicit false
set_option maxRecDepth 100000
set_option maxHeartbeats 1000000
namespace Dl
open PySem L2
/-! ### webs: the defs that many laws share -/
@[irreducible] def m_every_place (web1 : D) : Option (D) :=
  (C1 (fun d => (dRg1 d).map PyData.tuple) (b2 dIx (some web1) (some (PyData.int 0))))
@[irreducible] def m_are_tied (web1 a2 b3 : D) : Option (D) :=
  (b2 (dIn false) ((consO (C2 dMin2 (some a2) (some b3)) (consO (C2 dMax2 (some a2) (some b3)) (some []))).map PyData.tuple) (b2 dIx (some web1) (some (PyData.int 1))))
@[irreducible] def m_neighbours (web1 place2 : D) : Option (D) :=
  (C1 dTup ((lcO ((C1 m_every_place (some web1)).bind dItems) fun other3 => turnO (andO ((b2 dNe (some other3) (some place2)).bind asB) ((C3 m_are_tied (some web1) (some place2) (some other3)).bind asT)) (some other3)).map PyData.list))
@[irreducible] def m_piece_of (web1 lot2 place3 : D) : Option (D) :=
  ((consL (consO (some place3) (some [])) (consD (some (PyData.int 0)) (some []))).bind (cel2 (fun c5 c7 => (onL (fun found4 => (onD (fun at6 => (whileO (S := List D × D) (fun s8 => ((b2 dLt (some s8.2) (C1 dLen (some (PyData.list s8.1)))).bind asB)) (fun s8 kk9 => (augL s8.1 (immLO (lcO ((C2 m_neighbours (some web1) (b2 dIx (some (PyData.list s8.1)) (some s8.2))).bind dItems) fun other13 => turnO (andO ((b2 (dIn false) (some other13) (some lot2)).bind asB) ((b2 (dIn true) (some other13) (some (PyData.list s8.1))).bind asB)) (some other13))) fun found12 => (augI s8.2 (some (PyData.int 1)) fun at14 => (kk9 (found12, at14))))) 10000 (found4, at6) fun s11 => (C1 dTup ((C1 dSort (some (PyData.list s11.1))).map PyData.list)))) c7)) c5))))
@[irreducible] def m__law_web (n1 pairs2 : D) : Option (D) :=
  ((consO (some n1) (consO (C1 dTup ((C1 dSS ((lcO ((some pairs2).bind dItems) fun d => un2 d fun a3 b4 => turnO ((b2 dNe (some a3) (some b4)).bind asB) ((consO (C2 dMin2 (some a3) (some b4)) (consO (C2 dMax2 (some a3) (some b4)) (some []))).map PyData.tuple)).map PyData.list)).map PyData.list)) (some []))).map PyData.tuple)
@[irreducible] def m__law_draw_web (low1 high2 : D) : M D := fun q =>
  ((consDM (op2 dAdd (lift (some low1)) (drawM (consM (lift (b2 dAdd (b2 dSub (some high2) (some low1)) (some (PyData.int 1)))) nilM) (G1 m__law_take))) (consDM (drawM (consM (lift (some (PyData.int 9))) nilM) (G1 m__law_take)) nilCM)) (cel2M (fun c4 c6 => (onDM (fun n3 => (onDM (fun way5 => ((consDM (drawM (consM (lift (some n3)) nilM) (G1 m__law_draw_order)) (consLM (lift (some [])) nilCM)) (cel2M (fun c8 c10 => (onDM (fun order7 => (onLM (fun pairs9 => (ifK (lift ((b2 dEq (some way5) (some (PyData.int 0))).bind asB)) ((lstM (lcM (appM (consM (drawM (consM (lift (b2 dAdd (some n3) (some (PyData.int 1)))) nilM) (G1 m__law_take)) nilM) dRange) fun k12 => turnM (lift (some true)) (tupM (consM (drawM (consM (lift (some n3)) nilM) (G1 m__law_take)) (consM (drawM (consM (lift (some n3)) nilM) (G1 m__law_take)) nilM))))) fun pairs11 => ((lift (C2 m__law_web (some n3) (some pairs11))) q)) (ifK (lift ((b2 (dIn false) (some way5) ((consO (some (PyData.int 2)) (consO (some (PyData.int 3)) (some []))).map PyData.list)).bind asB)) ((lift (b2 dAdd ((lcO (C2 (fun x y => dRange [x, y]) (b2 dSub (some (PyData.int 4)) (some way5)) (some n3)) fun k14 => turnO (some true) ((consO (b2 dIx (some order7) (b2 dSub (some k14) (some (PyData.int 1)))) (consO (b2 dIx (some order7) (some k14)) (some []))).map PyData.tuple)).map PyData.list) ((consO ((consO (b2 dIx (some order7) (some (PyData.int 0))) (consO (b2 dIx (some order7) (b2 dMul (some (PyData.int 1)) (C1 dInt (b2 dGt (some n3) (some (PyData.int 1)))))) (some []))).map PyData.tuple) (some [])).map PyData.list))) fun pairs13 => ((lift (C2 m__law_web (some n3) (b2 dAdd (some pairs13) ((C2 dRepL ((consO ((consO (b2 dIx (some order7) (some (PyData.int 0))) (consO (b2 dIx (some order7) (b2 dSub (some n3) (some (PyData.int 1)))) (some []))).map PyData.tuple) (some [])).map PyData.list) (b2 dSub (some way5) (some (PyData.int 2)))).map PyData.list)))) q)) (ifK (lift ((b2 dEq (some way5) (some (PyData.int 4))).bind asB)) ((lift (C2 m__law_web (some n3) ((lcO ((some order7).bind dItems) fun other15 => turnO (some true) ((consO (b2 dIx (some order7) (some (PyData.int 0))) (consO (some other15) (some []))).map PyData.tuple)).map PyData.list))) q) (ifK (lift (andO ((b2 dEq (some way5) (some (PyData.int 5))).bind asB) ((b2 dGt (some n3) (some (PyData.int 4))).bind asB))) ((op2 dAdd (lift (some (PyData.int 2))) (drawM (consM (lift (b2 dSub (some n3) (some (PyData.int 4)))) nilM) (G1 m__law_take))) fun half16 => ((lstM (lift (consO (slO (some order7) (some none) ((b2 dAdd (some half16) (some (PyData.int 1))).bind asI)) (consO (slO (some order7) ((some half16).bind asI) (some none)) (some []))))) fun rings17 => ((lift ((some rings17).bind dItems)) fun ds => forK (S := D) (fun s18 ring22 kk19 => ((lift (b2 dAdd (some s18) ((lcO (C1 (fun x => dRange [x]) (C1 dLen (some ring22))) fun k24 => turnO (some true) ((consO (b2 dIx (some ring22) (b2 dSub (some k24) (some (PyData.int 1)))) (consO (b2 dIx (some ring22) (some k24)) (some []))).map PyData.tuple)).map PyData.list))) fun pairs23 => (kk19 pairs23))) ds (PyData.list pairs9) fun s21 => ((lift (C2 m__law_web (some n3) (some s21))) q)))) ((lift (C2 (fun x y => dRange [x, y]) (some (PyData.int 1)) (some n3))) fun ds => forK (S := List D) (fun s25 k29 kk26 => ((tupM (consM (op2 dIx (lift (some order7)) (drawM (consM (lift (some k29)) nilM) (G1 m__law_take))) (consM (lift (b2 dIx (some order7) (some k29))) nilM))) fun d31 m => s25.length < sizeLine ∧ ((kk26 (s25 ++ [d31]))) m)) ds pairs9 fun s28 => ((lift (b2 dIx ((consO (some (PyData.int 0)) (consO (some (PyData.int 1)) (consO (some (PyData.int 0)) (consO (some (PyData.int 0)) (consO (some (PyData.int 0)) (consO (some (PyData.int 2)) (consO (some (PyData.int 3)) (consO (some n3) (consO (b2 dMul (some (PyData.int 3)) (some n3)) (some [])))))))))).map PyData.list) (some way5))) fun more32 => ((appM (consM (lift (some n3)) (consM (op2 dAdd (lift (some (PyData.list s28))) (lstM (lcM (lift (C1 (fun x => dRange [x]) (some more32))) fun k33 => turnM (lift (some true)) (tupM (consM (drawM (consM (lift (some n3)) nilM) (G1 m__law_take)) (consM (drawM (consM (lift (some n3)) nilM) (G1 m__law_take)) nilM)))))) nilM)) (F2 m__law_web)) q)))))))) c10)) c8))))) c6)) c4))))
@[irreducible] def m__law_near (web1 place2 : D) : Option (D) :=
  (((some []).map PyData.list).bind fun found3 => (((b2 dIx (some web1) (some (PyData.int 1))).bind dItems).bind fun ds => forO (S := D) (fun s4 d kk5 => un2 d fun a8 b9 => ((b2 dAdd (b2 dAdd (some s4) ((ifO ((b2 dEq (some a8) (some place2)).bind asB) (consO (some b9) (some [])) (some [])).map PyData.list)) ((ifO ((b2 dEq (some b9) (some place2)).bind asB) (consO (some a8) (some [])) (some [])).map PyData.list)).bind fun found10 => (kk5 found10))) ds found3 fun s7 => (C1 dTup ((C1 dSort (some s7)).map PyData.list))))
@[irreducible] def m__law_piece (web1 lot2 place3 : D) : Option (D) :=
  (((consO (some place3) (some [])).map PyData.list).bind fun found4 => ((C1 (fun x => dRange [x]) (C1 dLen (some lot2))).bind fun ds => forO (S := D) (fun s5 turn9 kk6 => (((C1 dItems (some s5)).map PyData.list).bind fun more10 => (((some s5).bind dItems).bind fun ds => forO (S := D) (fun s11 one15 kk12 => ((b2 dAdd (some s11) ((lcO ((C2 m__law_near (some web1) (some one15)).bind dItems) fun other17 => turnO ((b2 (dIn false) (some other17) (some lot2)).bind asB) (some other17)).map PyData.list)).bind fun more16 => (kk12 more16))) ds more10 fun s14 => (((C1 dSS (some s14)).map PyData.list).bind fun found18 => (kk6 found18))))) ds found4 fun s8 => (C1 dTup (some s8))))
@[irreducible] def m__law_draw_roots (n1 k2 : D) : M D := fun q =>
  ((sliceM (drawM (consM (lift (some n1)) nilM) (G1 m__law_draw_order)) (lift (some none)) (lift ((some k2).bind asI))) q)
@[irreducible] def m__law_draw_sizes (n1 k2 : D) : M D := fun q =>
  ((lift (C2 dRepL ((consO (some (PyData.int 1)) (some [])).map PyData.list) (some k2))) fun found3 => ((lift (C1 (fun x => dRange [x]) (b2 dSub (some n1) (some k2)))) fun ds => forK (S := List D) (fun s4 turn8 kk5 => ((drawM (consM (lift (some k2)) nilM) (G1 m__law_take)) fun i9 => (setIK s4 (lift (immO (b2 dAdd (b2 dIx (some (PyData.list s4)) (some i9)) (some (PyData.int 1))))) (lift (some i9)) fun found10 => (kk5 found10)))) ds found3 fun s7 => ((lift (C1 dTup (some (PyData.list s7)))) q)))
@[irreducible] def m__law_draw_deal (web1 most2 : D) : M D := fun q =>
  ((op2 dAdd (lift (some (PyData.int 1))) (drawM (consM (lift (C2 dMin2 (some most2) (b2 dIx (some web1) (some (PyData.int 0))))) nilM) (G1 m__law_take))) fun k3 => ((tupM (consM (drawM (consM (lift (b2 dIx (some web1) (some (PyData.int 0)))) (consM (lift (some k3)) nilM)) (G2 m__law_draw_roots)) (consM (drawM (consM (lift (b2 dIx (some web1) (some (PyData.int 0)))) (consM (lift (some k3)) nilM)) (G2 m__law_draw_sizes)) nilM))) q))
theorem c2_some {β : Type} (f : D → D → Option β) (a b : D) : C2 f (some a) (some b) = f a b := rfl
theorem c3_some {β : Type} (f : D → D → D → Option β) (a b c : D) : C3 f (some a) (some b) (some c) = f a b c := rfl
theorem c4_some {β : Type} (f : D → D → D → D → Option β) (a b c d : D) : C4 f (some a) (some b) (some c) (some d) = f a b c d := rfl
def tieD (p : Nat × Nat) : D := .tuple [.int p.1, .int p.2]
def webD (n : Nat) (ts : List (Nat × Nat)) : D := .tuple [.int n, .tuple (ts.map tieD)]
structure Wb (n : Nat) (ts : List (Nat × Nat)) : Prop where
  lo : 1 ≤ n
  hi : n ≤ 12
  few : ts.length ≤ 100
  ord : ∀ p ∈ ts, p.1 < p.2 ∧ p.2 < n
  asc : ts.Pairwise fun p q => p.1 < q.1 ∨ (p.1 = q.1 ∧ p.2 < q.2)
def adj (ts : List (Nat × Nat)) (a b : Nat) : Bool := decide ((min a b, max a b) ∈ ts)
def nbr (n : Nat) (ts : List (Nat × Nat)) (p : Nat) : List Nat := (List.range n).filter fun o => decide (o ≠ p) && adj ts p o
theorem web0 (n : Nat) (ts : List (Nat × Nat)) : b2 dIx (some (webD n ts)) (some (PyData.int 0)) = some (.int n) := rfl
theorem web1 (n : Nat) (ts : List (Nat × Nat)) : b2 dIx (some (webD n ts)) (some (PyData.int 1)) = some (.tuple (ts.map tieD)) := rfl
theorem plain_ints : ∀ ns : List Int, PyData.plainAll (ns.map PyData.int) = true
  | [] => rfl
  | n :: ns => by simp [PyData.plainAll, PyData.plain, plain_ints ns]
theorem plain_ties : ∀ ts : List (Nat × Nat), PyData.plainAll (ts.map tieD) = true ∧ PyData.depthAll (ts.map tieD) ≤ 1
  | [] => ⟨rfl, by simp [PyData.depthAll]⟩
  | t :: ts => by
    obtain ⟨h1, h2⟩ := plain_ties ts
    constructor
    · simp [PyData.plainAll, PyData.plain, tieD, h1]
    · simp only [List.map_cons, PyData.depthAll, PyData.depth, tieD]
      omega
theorem eqv_tie (p q : Nat × Nat) : PyData.eqv (tieD p) (tieD q) = decide (p = q) := by
  obtain ⟨a, b⟩ := p
  obtain ⟨c, d⟩ := q
  have e1 : ((a : Int) == (c : Int)) = decide (a = c) := by rw [Bool.eq_iff_iff, beq_iff_eq, decide_eq_true_iff]; omega
  have e2 : ((b : Int) == (d : Int)) = decide (b = d) := by rw [Bool.eq_iff_iff, beq_iff_eq, decide_eq_true_iff]; omega
  simp [tieD, PyData.eqv, PyData.eqvAll, e1, e2]
theorem in_ties (a b : Nat) (ts : List (Nat × Nat)) (neg : Bool) : b2 (dIn neg) (some (.tuple [.int a, .int b])) (some (.tuple (ts.map tieD))) = some (.bool (if neg then !decide ((a, b) ∈ ts) else decide ((a, b) ∈ ts))) := by
  obtain ⟨h1, h2⟩ := plain_ties ts
  have ok : inOk (tieD (a, b)) (ts.map tieD) = true := by
    simp only [inOk, h1, Bool.true_and, Bool.and_eq_true, decide_eq_true_eq]
    refine ⟨by simp [tieD, PyData.plain, PyData.plainAll], by omega⟩
  have e : (ts.map tieD).any (fun y => PyData.eqv y (tieD (a, b))) = decide ((a, b) ∈ ts) := by
    rw [List.any_map]
    have : (fun y => PyData.eqv y (tieD (a, b))) ∘ tieD = fun p => decide (p = (a, b)) := by
      funext p
      exact eqv_tie p (a, b)
    rw [this]
    by_cases h : (a, b) ∈ ts
    · rw [decide_eq_true h, List.any_eq_true]
      exact ⟨_, h, by simp⟩
    · rw [decide_eq_false h, List.any_eq_false]
      intro p hp
      simp only [decide_eq_true_eq]
      exact fun e => h (e ▸ hp)
  show (if inOk (tieD (a, b)) (ts.map tieD) = true then _ else none) = _
  rw [if_pos ok]
  exact congrArg (fun z => some (PyData.bool (if neg = true then !z else z))) e
theorem min2_nat (a b : Nat) : C2 dMin2 (some (PyData.int a)) (some (.int b)) = some (.int ((min a b : Nat) : Int)) := by
  show some (PyData.int (if (b : Int) < a then (b : Int) else a)) = _
  congr 2
  split <;> omega
theorem max2_nat (a b : Nat) : C2 dMax2 (some (PyData.int a)) (some (.int b)) = some (.int ((max a b : Nat) : Int)) := by
  show some (PyData.int (if (b : Int) > a then (b : Int) else a)) = _
  congr 2
  split <;> omega
theorem places_eval (n : Nat) (ts : List (Nat × Nat)) (h : n < 100000) : C1 m_every_place (some (webD n ts)) = some (.tuple (ofN (List.range n))) := by
  rw [c1_some]
  unfold m_every_place
  rw [web0, c1_some]
  have ok : rgOk 0 n = true := by
    simp only [rgOk, decide_eq_true_eq]
    omega
  simp only [dRg1, ok, if_true, Option.map_some]
  rw [rangeD0]
  rfl
theorem tied_eval (n : Nat) (ts : List (Nat × Nat)) (a b : Nat) : C3 m_are_tied (some (webD n ts)) (some (.int a)) (some (.int b)) = some (.bool (adj ts a b)) := by
  rw [c3_some]
  unfold m_are_tied
  rw [min2_nat, max2_nat, web1]
  exact in_ties _ _ ts false
theorem ne_nat (a b : Nat) : b2 dNe (some (PyData.int a)) (some (.int b)) = some (.bool (decide (a ≠ b))) := by
  rw [b2_some, dNe_int]
  congr 2
  rw [Bool.eq_iff_iff]
  simp only [Bool.not_eq_true', decide_eq_false_iff_not, decide_eq_true_eq]
  omega
theorem eq_nat (a b : Nat) : b2 dEq (some (PyData.int a)) (some (.int b)) = some (.bool (decide (a = b))) := by
  rw [b2_some, dEq_int]
  congr 2
  rw [Bool.eq_iff_iff]
  simp only [decide_eq_true_eq]
  omega
theorem asB_bool (b : Bool) : (some (PyData.bool b)).bind asB = some b := rfl
theorem asT_bool (b : Bool) : (some (PyData.bool b)).bind asT = some b := rfl
theorem andO_some (a b : Bool) : andO (some a) (some b) = some (a && b) := by
  cases a <;> rfl
theorem items_tup (xs : List D) : (some (PyData.tuple xs)).bind dItems = some xs := rfl
theorem items_lst (xs : List D) : (some (PyData.list xs)).bind dItems = some xs := rfl
theorem tup_lst (xs : List D) : C1 dTup ((some xs).map PyData.list) = some (.tuple xs) := rfl
/-- a comprehension over places, with a test, as places -/
theorem lc_places {xs : List Nat} {p : Nat → Bool} {o : Option (List D)} {t : D → Option Bool} (ho : o = some (ofN xs)) (hl : xs.length < 100000) (ht : ∀ x ∈ xs, t (.int (x : Nat)) = some (p x)) : lcO o (fun d => turnO (t d) (some d)) = some (ofN (xs.filter p)) :=
  lcO_filter (p := p) (g := fun (i : Nat) => PyData.int i) (h := fun (i : Nat) => PyData.int i) xs ho (by rw [sizeLine_eq]; omega) ht fun _ _ _ => rfl
theorem nbrs_eval {n : Nat} {ts : List (Nat × Nat)} (h : n < 100000) (p : Nat) : C2 m_neighbours (some (webD n ts)) (some (.int p)) = some (.tuple (ofN (nbr n ts p))) := by
  rw [c2_some]
  unfold m_neighbours
  rw [places_eval n ts h, items_tup, lc_places (p := fun o => decide (o ≠ p) && adj ts p o) rfl (by rw [List.length_range]; omega) fun x _ => ?_]
  · exact tup_lst _
  · rw [ne_nat, tied_eval, asB_bool, asT_bool, andO_some]
theorem nbr_lt {n : Nat} {ts : List (Nat × Nat)} {p x : Nat} (h : x ∈ nbr n ts p) : x < n := List.mem_range.mp (List.mem_filter.mp h).1
/-- places in ascending order -/
def Asc (xs : List Nat) : Prop := xs.Pairwise (· < ·)
theorem asc_range (n : Nat) : Asc (List.range n) := List.pairwise_lt_range
theorem asc_filter {xs : List Nat} (p : Nat → Bool) (h : Asc xs) : Asc (xs.filter p) := List.Pairwise.filter p h
theorem asc_one {xs ys : List Nat} (h1 : Asc xs) (h2 : Asc ys) (h : ∀ z, z ∈ xs ↔ z ∈ ys) : xs = ys := strict_one (fun a b h1 h2 => by omega) h1 h2 h
theorem asc_nodup {xs : List Nat} (h : Asc xs) : xs.Nodup := h.imp fun h => Nat.ne_of_lt h
theorem srt_asc (zs : List Nat) (hn : zs.Nodup) : ∃ ys : List Nat, ys.Perm zs ∧ Asc ys ∧ srtD (ofN zs) = ofN ys := by
  refine ⟨zs.mergeSort (fun (a b : Nat) => decide ((a : Int) ≤ (b : Int))), List.mergeSort_perm _ _, ?_, ?_⟩
  · have h := List.pairwise_mergeSort (le := fun a b : Nat => decide ((a : Int) ≤ (b : Int))) (fun a b c h1 h2 => decide_eq_true (Int.le_trans (of_decide_eq_true h1) (of_decide_eq_true h2))) (fun a b => by
      rcases Int.le_total (a : Int) b with h | h
      · simp [h]
      · simp [h]) zs
    exact (le_strict h ((List.mergeSort_perm _ _).nodup_iff.mpr hn)).imp fun ⟨h1, h2⟩ => by
      have := of_decide_eq_true h1
      omega
  · unfold srtD ofN
    refine (List.map_mergeSort (f := fun (i : Nat) => PyData.int i) (r := fun (a b : Nat) => decide ((a : Int) ≤ (b : Int))) (s := PySem.W.dataLe false id) (l := zs) fun a _ b _ => ?_).symm
    exact (congrFun (congrFun (PySem.W.dataLe_int (β := Nat) fun i => (i : Int)) a) b).symm
theorem srtOk_ofN (zs : List Nat) (h : zs.length < 100000) : srtOk (ofN zs) = true := by
  have hm : ∀ d ∈ ofN zs, ∃ i : Nat, d = .int i := fun d hd => by
    obtain ⟨i, _, rfl⟩ := List.mem_map.mp hd
    exact ⟨i, rfl⟩
  simp only [srtOk, Bool.and_eq_true, Bool.or_eq_true, List.all_eq_true, decide_eq_true_eq]
  refine ⟨⟨⟨fun d hd e he => ?_, .inr fun d hd => ?_⟩, ?_⟩, fun d hd => ?_⟩
  · obtain ⟨i, rfl⟩ := hm d hd
    obtain ⟨j, rfl⟩ := hm e he
    rfl
  · obtain ⟨i, rfl⟩ := hm d hd
    rfl
  · rw [ofN_len, sizeLine_eq]; omega
  · obtain ⟨i, rfl⟩ := hm d hd
    simp [PyData.depth]
/-- sorted places, no two alike: the one ascending list of them -/
theorem sort_one {zs ys : List Nat} {o : Option D} (ho : o = some (.list (ofN zs)) ∨ o = some (.tuple (ofN zs))) (hl : zs.length < 100000) (hn : zs.Nodup) (hy : Asc ys) (h : ∀ z, z ∈ ys ↔ z ∈ zs) : C1 dSort o = some (ofN ys) := by
  obtain ⟨xs, h1, h2, h3⟩ := srt_asc zs hn
  have e : xs = ys := asc_one h2 hy fun z => by rw [h1.mem_iff, h z]
  have s : ∀ d, d = PyData.list (ofN zs) ∨ d = PyData.tuple (ofN zs) → dSort d = some (ofN ys) := fun d hd => by
    have : dSort d = if srtOk (ofN zs) = true then some (srtD (ofN zs)) else none := by
      rcases hd with rfl | rfl <;> rfl
    rw [this, if_pos (srtOk_ofN zs hl), h3, e]
  rcases ho with rfl | rfl
  · exact s _ (.inl rfl)
  · exact s _ (.inr rfl)
theorem ss_one {zs ys : List Nat} {o : Option D} (ho : o = some (.list (ofN zs))) (hl : zs.length < 4000) (hy : Asc ys) (h64 : ys.length < 64) (h : ∀ z, z ∈ ys ↔ z ∈ zs) : C1 dSS o = some (ofN ys) := by
  subst ho
  have e : ofN zs = (zs.map fun (i : Nat) => (i : Int)).map PyData.int := by unfold ofN; rw [List.map_map]; rfl
  have e2 : ofN ys = (ys.map fun (i : Nat) => (i : Int)).map PyData.int := by unfold ofN; rw [List.map_map]; rfl
  have hs : ys.map (fun (i : Nat) => (i : Int)) = ssI (zs.map fun (i : Nat) => (i : Int)) := by
    refine ssI_one (List.pairwise_map.mpr (hy.imp fun h => by omega)) fun k => ?_
    simp only [List.mem_map]
    exact ⟨fun ⟨a, ha, e⟩ => ⟨a, (h a).mp ha, e⟩, fun ⟨a, ha, e⟩ => ⟨a, (h a).mpr ha, e⟩⟩
  have hd : (dd (zs.map fun (i : Nat) => (i : Int))).length = ys.length := by
    have := congrArg List.length hs
    unfold ssI at this
    rw [List.length_map, List.length_mergeSort] at this
    exact this.symm
  rw [c1_some, e, e2]
  unfold dSS
  simp only [intsOf_map]
  rw [if_pos ⟨by rw [List.length_map]; exact hl, by rw [hd]; exact h64⟩, hs]
theorem add_lists (xs ys : List D) (h : xs.length + ys.length ≤ sizeLine) : b2 dAdd (some (.list xs)) (some (.list ys)) = some (.list (xs ++ ys)) := if_pos h
theorem add_listsO {xs ys : List D} {o : Option D} (ho : o = some (.list ys)) (h : xs.length + ys.length ≤ sizeLine) : b2 dAdd (some (.list xs)) o = some (.list (xs ++ ys)) := by
  subst ho
  exact add_lists xs ys h
def nearL (p : Nat) : List (Nat × Nat) → List Nat
  | [] => []
  | t :: ts => (if t.1 = p then [t.2] else []) ++ (if t.2 = p then [t.1] else []) ++ nearL p ts
theorem nearL_len (p : Nat) : ∀ ts : List (Nat × Nat), (nearL p ts).length ≤ 2 * ts.length
  | [] => Nat.le_refl _
  | t :: ts => by
    have := nearL_len p ts
    have h1 : (if t.1 = p then [t.2] else ([] : List Nat)).length ≤ 1 := by split <;> simp
    have h2 : (if t.2 = p then [t.1] else ([] : List Nat)).length ≤ 1 := by split <;> simp
    simp only [nearL, List.length_append, List.length_cons]
    omega
theorem nearL_mem (p z : Nat) : ∀ ts : List (Nat × Nat), z ∈ nearL p ts ↔ (p, z) ∈ ts ∨ (z, p) ∈ ts
  | [] => by simp [nearL]
  | (a, b) :: ts => by
    have m : ∀ (x y u : Nat), z ∈ (if x = u then [y] else ([] : List Nat)) ↔ x = u ∧ z = y := fun x y u => by
      by_cases h : x = u
      · rw [if_pos h, List.mem_singleton]
        exact ⟨fun e => ⟨h, e⟩, fun e => e.2⟩
      · rw [if_neg h]
        exact ⟨fun e => (List.not_mem_nil e).elim, fun e => absurd e.1 h⟩
    simp only [nearL, List.mem_append, nearL_mem p z ts, List.mem_cons, Prod.mk.injEq, m]
    constructor
    · rintro ((⟨rfl, rfl⟩ | ⟨rfl, rfl⟩) | h | h)
      · exact .inl (.inl ⟨rfl, rfl⟩)
      · exact .inr (.inl ⟨rfl, rfl⟩)
      · exact .inl (.inr h)
      · exact .inr (.inr h)
    · rintro ((⟨rfl, rfl⟩ | h) | ⟨rfl, rfl⟩ | h)
      · exact .inl (.inl ⟨rfl, rfl⟩)
      · exact .inr (.inl h)
      · exact .inl (.inr ⟨rfl, rfl⟩)
      · exact .inr (.inr h)
theorem nearL_nodup (p : Nat) : ∀ ts : List (Nat × Nat), (∀ t ∈ ts, t.1 < t.2) → ts.Nodup → (nearL p ts).Nodup
  | [], _, _ => List.nodup_nil
  | (a, b) :: ts, ho, hn => by
    obtain ⟨n1, n2⟩ := List.nodup_cons.mp hn
    have ih := nearL_nodup p ts (fun t ht => ho t (List.mem_cons_of_mem _ ht)) n2
    have hab : a < b := ho (a, b) List.mem_cons_self
    have lt : ∀ x y, (x, y) ∈ ts → x < y := fun x y h => ho (x, y) (List.mem_cons_of_mem _ h)
    unfold nearL
    by_cases h1 : a = p
    · subst h1
      have h2 : ¬ b = a := by omega
      simp only [if_true, if_neg h2, List.append_nil, List.cons_append, List.nil_append, List.nodup_cons]
      refine ⟨fun h => ?_, ih⟩
      rcases (nearL_mem a b ts).mp h with h | h
      · exact n1 h
      · have := lt _ _ h; omega
    · by_cases h2 : b = p
      · subst h2
        simp only [if_true, if_neg h1, List.cons_append, List.nil_append, List.nodup_cons]
        refine ⟨fun h => ?_, ih⟩
        rcases (nearL_mem b a ts).mp h with h | h
        · have := lt _ _ h; omega
        · exact n1 h
      · simp only [if_neg h1, if_neg h2, List.nil_append]
        exact ih
theorem near_loop (p : Nat) {α : Type} {k : D → Option α} : ∀ (ts : List (Nat × Nat)) (acc : List Nat), acc.length + 2 * ts.length < 100000 →
    forO (S := D) (fun s4 d kk5 => un2 d fun a8 b9 => ((b2 dAdd (b2 dAdd (some s4) ((ifO ((b2 dEq (some a8) (some (PyData.int p))).bind asB) (consO (some b9) (some [])) (some [])).map PyData.list)) ((ifO ((b2 dEq (some b9) (some (PyData.int p))).bind asB) (consO (some a8) (some [])) (some [])).map PyData.list)).bind fun found10 => (kk5 found10))) (ts.map tieD) (.list (ofN acc)) k = k (.list (ofN (acc ++ nearL p ts)))
  | [], acc, _ => by
    rw [nearL, List.append_nil]
    rfl
  | (a, b) :: ts, acc, hl => by
    rw [List.length_cons] at hl
    have e1 : (ifO ((b2 dEq (some (PyData.int a)) (some (PyData.int p))).bind asB) (consO (some (PyData.int b)) (some [])) (some [])).map PyData.list = some (.list (ofN (if a = p then [b] else []))) := by
      rw [eq_nat, asB_bool]
      by_cases h : a = p <;> simp [h, ifO, consO, ofN]
    have e2 : (ifO ((b2 dEq (some (PyData.int b)) (some (PyData.int p))).bind asB) (consO (some (PyData.int a)) (some [])) (some [])).map PyData.list = some (.list (ofN (if b = p then [a] else []))) := by
      rw [eq_nat, asB_bool]
      by_cases h : b = p <;> simp [h, ifO, consO, ofN]
    have l1 : (if a = p then [b] else ([] : List Nat)).length ≤ 1 := by split <;> simp
    have l2 : (if b = p then [a] else ([] : List Nat)).length ≤ 1 := by split <;> simp
    have e3 : b2 dAdd (b2 dAdd (some (.list (ofN acc))) ((ifO ((b2 dEq (some (PyData.int a)) (some (PyData.int p))).bind asB) (consO (some (PyData.int b)) (some [])) (some [])).map PyData.list)) ((ifO ((b2 dEq (some (PyData.int b)) (some (PyData.int p))).bind asB) (consO (some (PyData.int a)) (some [])) (some [])).map PyData.list) = some (.list (ofN (acc ++ (if a = p then [b] else []) ++ (if b = p then [a] else [])))) := by
      rw [add_listsO e1 (by simp only [ofN_len, sizeLine_eq]; omega), add_listsO e2 (by simp only [List.length_append, ofN_len, sizeLine_eq]; omega)]
      simp [ofN]
    refine (?_ : (b2 dAdd (b2 dAdd (some (.list (ofN acc))) ((ifO ((b2 dEq (some (PyData.int a)) (some (PyData.int p))).bind asB) (consO (some (PyData.int b)) (some [])) (some [])).map PyData.list)) ((ifO ((b2 dEq (some (PyData.int b)) (some (PyData.int p))).bind asB) (consO (some (PyData.int a)) (some [])) (some [])).map PyData.list)).bind _ = _)
    rw [e3, Option.bind_some]
    refine (near_loop p ts _ (by simp only [List.length_append]; omega)).trans ?_
    simp only [nearL, List.append_assoc]
theorem Wb.nodup {n : Nat} {ts : List (Nat × Nat)} (W : Wb n ts) : ts.Nodup := W.asc.imp fun h e => by
  subst e
  omega
theorem adj_iff {n : Nat} {ts : List (Nat × Nat)} (W : Wb n ts) (p z : Nat) : (z ≠ p ∧ adj ts p z = true) ↔ (p, z) ∈ ts ∨ (z, p) ∈ ts := by
  unfold adj
  rw [decide_eq_true_eq]
  constructor
  · rintro ⟨h1, h2⟩
    rcases Nat.lt_or_gt_of_ne h1 with h | h
    · rw [Nat.min_eq_right (by omega), Nat.max_eq_left (by omega)] at h2
      exact .inr h2
    · rw [Nat.min_eq_left (by omega), Nat.max_eq_right (by omega)] at h2
      exact .inl h2
  · rintro (h | h)
    · have := (W.ord _ h).1
      simp only at this
      exact ⟨by omega, by rw [Nat.min_eq_left (by omega), Nat.max_eq_right (by omega)]; exact h⟩
    · have := (W.ord _ h).1
      simp only at this
      exact ⟨by omega, by rw [Nat.min_eq_right (by omega), Nat.max_eq_left (by omega)]; exact h⟩
theorem nbr_iff {n : Nat} {ts : List (Nat × Nat)} (W : Wb n ts) (p z : Nat) : z ∈ nbr n ts p ↔ (p, z) ∈ ts ∨ (z, p) ∈ ts := by
  unfold nbr
  rw [List.mem_filter, List.mem_range, Bool.and_eq_true, decide_eq_true_eq, adj_iff W]
  refine ⟨fun h => h.2, fun h => ⟨?_, h⟩⟩
  rcases h with h | h
  · exact (W.ord _ h).2
  · have := W.ord _ h
    simp only at this
    omega
theorem nbr_symm {n : Nat} {ts : List (Nat × Nat)} (W : Wb n ts) {p z : Nat} (h : z ∈ nbr n ts p) : p ∈ nbr n ts z := by
  rw [nbr_iff W] at *
  exact h.symm
theorem nbr_asc (n : Nat) (ts : List (Nat × Nat)) (p : Nat) : Asc (nbr n ts p) := asc_filter _ (asc_range n)
theorem near_eval {n : Nat} {ts : List (Nat × Nat)} (W : Wb n ts) (p : Nat) : C2 m__law_near (some (webD n ts)) (some (.int p)) = some (.tuple (ofN (nbr n ts p))) := by
  rw [c2_some]
  unfold m__law_near
  rw [web1, items_tup, Option.map_some, Option.bind_some, Option.bind_some]
  have hf := W.few
  refine (near_loop p ts [] (by simp; omega)).trans ?_
  have hz := nearL_len p ts
  rw [sort_one (ys := nbr n ts p) (.inl rfl) (by simp; omega) (by simpa using nearL_nodup p ts (fun t h => (W.ord t h).1) W.nodup) (nbr_asc n ts p) fun z => by simp only [List.nil_append]; rw [nbr_iff W, nearL_mem]]
  rfl
/-! ### pieces -/
/-- what is reached from a place through the places of a lot -/
inductive Rch (n : Nat) (ts : List (Nat × Nat)) (lot : List Nat) (p : Nat) : Nat → Prop
  | base : Rch n ts lot p p
  | step {x y : Nat} : Rch n ts lot p x → y ∈ nbr n ts x → y ∈ lot → Rch n ts lot p y
theorem Rch.lt {n : Nat} {ts : List (Nat × Nat)} {lot : List Nat} {p x : Nat} (hp : p < n) (h : Rch n ts lot p x) : x < n := by
  cases h with
  | base => exact hp
  | step _ h _ => exact nbr_lt h
theorem Rch.mem {n : Nat} {ts : List (Nat × Nat)} {lot : List Nat} {p x : Nat} (h : Rch n ts lot p x) : x ∈ p :: lot := by
  cases h with
  | base => exact List.mem_cons_self
  | step _ _ h => exact List.mem_cons_of_mem _ h
open Classical in
noncomputable def piece (n : Nat) (ts : List (Nat × Nat)) (lot : List Nat) (p : Nat) : List Nat := (List.range n).filter fun x => decide (Rch n ts lot p x)
open Classical in
theorem piece_mem {n : Nat} {ts : List (Nat × Nat)} {lot : List Nat} {p x : Nat} (hp : p < n) : x ∈ piece n ts lot p ↔ Rch n ts lot p x := by
  unfold piece
  rw [List.mem_filter, List.mem_range, decide_eq_true_eq]
  exact ⟨fun h => h.2, fun h => ⟨h.lt hp, h⟩⟩
open Classical in
theorem piece_asc (n : Nat) (ts : List (Nat × Nat)) (lot : List Nat) (p : Nat) : Asc (piece n ts lot p) := asc_filter _ (asc_range n)
open Classical in
theorem piece_len (n : Nat) (ts : List (Nat × Nat)) (lot : List Nat) (p : Nat) : (piece n ts lot p).length ≤ n := by
  unfold piece
  refine Nat.le_trans (List.length_filter_le _ _) ?_
  rw [List.length_range]
  exact Nat.le_refl _
def Clo (n : Nat) (ts : List (Nat × Nat)) (lot fs : List Nat) : Prop := ∀ x ∈ fs, ∀ y ∈ nbr n ts x, y ∈ lot → y ∈ fs
theorem clo_all {n : Nat} {ts : List (Nat × Nat)} {lot fs : List Nat} {p : Nat} (h : Clo n ts lot fs) (hp : p ∈ fs) : ∀ x, Rch n ts lot p x → x ∈ fs := fun x r => by
  induction r with
  | base => exact hp
  | step _ h1 h2 ih => exact h _ ih _ h1 h2
theorem clo_one {n : Nat} {ts : List (Nat × Nat)} {lot fs : List Nat} {p : Nat} (hlt : p < n) (h : Clo n ts lot fs) (hp : p ∈ fs) (hr : ∀ x ∈ fs, Rch n ts lot p x) (z : Nat) : z ∈ piece n ts lot p ↔ z ∈ fs := by
  rw [piece_mem hlt]
  exact ⟨clo_all h hp z, hr z⟩
/-- one round of the law's own walk -/
def wider (n : Nat) (ts : List (Nat × Nat)) (lot fs : List Nat) : List Nat := (List.range n).filter fun x => decide (x ∈ fs) || (decide (x ∈ lot) && fs.any fun o => decide (x ∈ nbr n ts o))
theorem wider_mem {n : Nat} {ts : List (Nat × Nat)} {lot fs : List Nat} (hf : ∀ x ∈ fs, x < n) {x : Nat} : x ∈ wider n ts lot fs ↔ x ∈ fs ∨ (x ∈ lot ∧ ∃ o ∈ fs, x ∈ nbr n ts o) := by
  unfold wider
  rw [List.mem_filter, List.mem_range, Bool.or_eq_true, Bool.and_eq_true, decide_eq_true_eq, decide_eq_true_eq, List.any_eq_true]
  simp only [decide_eq_true_eq]
  constructor
  · exact fun h => h.2
  · intro h
    refine ⟨?_, h⟩
    rcases h with h | ⟨_, o, _, h⟩
    · exact hf x h
    · exact nbr_lt h
theorem wider_lt {n : Nat} {ts : List (Nat × Nat)} {lot fs : List Nat} : ∀ x ∈ wider n ts lot fs, x < n := fun x h => List.mem_range.mp (List.mem_filter.mp h).1
theorem wider_asc (n : Nat) (ts : List (Nat × Nat)) (lot fs : List Nat) : Asc (wider n ts lot fs) := asc_filter _ (asc_range n)
def rounds (n : Nat) (ts : List (Nat × Nat)) (lot : List Nat) (p : Nat) : Nat → List Nat
  | 0 => [p]
  | k + 1 => wider n ts lot (rounds n ts lot p k)
section
variable {n : Nat} {ts : List (Nat × Nat)} {lot : List Nat} {p : Nat}
theorem rounds_lt (hp : p < n) : ∀ k, ∀ x ∈ rounds n ts lot p k, x < n
  | 0, x, h => by rw [List.mem_singleton.mp h]; exact hp
  | k + 1, x, h => wider_lt x h
theorem rounds_asc : ∀ k, Asc (rounds n ts lot p k)
  | 0 => List.pairwise_singleton _ _
  | k + 1 => wider_asc _ _ _ _
theorem rounds_rch (hp : p < n) : ∀ k, ∀ x ∈ rounds n ts lot p k, Rch n ts lot p x
  | 0, x, h => by rw [List.mem_singleton.mp h]; exact .base
  | k + 1, x, h => by
    rcases (wider_mem (rounds_lt hp k)).mp h with h | ⟨h1, o, h2, h3⟩
    · exact rounds_rch hp k x h
    · exact .step (rounds_rch hp k o h2) h3 h1
theorem rounds_p (hp : p < n) : ∀ k, p ∈ rounds n ts lot p k
  | 0 => List.mem_singleton.mpr rfl
  | k + 1 => (wider_mem (rounds_lt hp k)).mpr (.inl (rounds_p hp k))
theorem rounds_clo (hp : p < n) : ∀ k, Clo n ts lot (rounds n ts lot p k) ∨ k + 1 ≤ (rounds n ts lot p k).length
  | 0 => .inr (Nat.le_refl _)
  | k + 1 => by
    have sub : ∀ x ∈ rounds n ts lot p k, x ∈ rounds n ts lot p (k + 1) := fun x h => (wider_mem (rounds_lt hp k)).mpr (.inl h)
    by_cases c : Clo n ts lot (rounds n ts lot p k)
    · refine .inl ?_
      have same : rounds n ts lot p (k + 1) = rounds n ts lot p k := asc_one (rounds_asc _) (rounds_asc _) fun z => ⟨fun h => by
        rcases (wider_mem (rounds_lt hp k)).mp h with h | ⟨h1, o, h2, h3⟩
        · exact h
        · exact c o h2 z h3 h1, sub z⟩
      rw [same]
      exact c
    · refine .inr ?_
      have ih := (rounds_clo hp k).resolve_left c
      have ⟨x, hx, y, hy, hl, hn⟩ : ∃ x, x ∈ rounds n ts lot p k ∧ ∃ y, y ∈ nbr n ts x ∧ y ∈ lot ∧ y ∉ rounds n ts lot p k := by
        refine Classical.byContradiction fun hh => c fun x hx y hy hl => Classical.byContradiction fun hn => hh ⟨x, hx, y, hy, hl, hn⟩
      have hin : y ∈ rounds n ts lot p (k + 1) := (wider_mem (rounds_lt hp k)).mpr (.inr ⟨hl, x, hx, hy⟩)
      have := nat_nodup_len (y :: rounds n ts lot p k) (rounds n ts lot p (k + 1)) (List.nodup_cons.mpr ⟨hn, asc_nodup (rounds_asc k)⟩) fun z hz => by
        rcases List.mem_cons.mp hz with rfl | hz
        · exact hin
        · exact sub z hz
      rw [List.length_cons] at this
      omega
theorem rounds_piece (hp : p < n) : rounds n ts lot p lot.length = piece n ts lot p := by
  have c : Clo n ts lot (rounds n ts lot p lot.length) := by
    refine Classical.byContradiction fun c => ?_
    have h1 := (rounds_clo hp lot.length).resolve_left c
    have ⟨x, hx, y, hy, hl, hn⟩ : ∃ x, x ∈ rounds n ts lot p lot.length ∧ ∃ y, y ∈ nbr n ts x ∧ y ∈ lot ∧ y ∉ rounds n ts lot p lot.length := by
      refine Classical.byContradiction fun hh => c fun x hx y hy hl => Classical.byContradiction fun hn => hh ⟨x, hx, y, hy, hl, hn⟩
    have := nat_nodup_len (y :: rounds n ts lot p lot.length) (p :: lot) (List.nodup_cons.mpr ⟨hn, asc_nodup (rounds_asc _)⟩) fun z hz => by
      rcases List.mem_cons.mp hz with rfl | hz
      · exact List.mem_cons_of_mem _ hl
      · exact (rounds_rch hp _ z hz).mem
    rw [List.length_cons, List.length_cons] at this
    omega
  exact asc_one (rounds_asc _) (piece_asc _ _ _ _) fun z => (clo_one hp c (rounds_p hp _) (rounds_rch hp _) z).symm
end
theorem in_places (x : Nat) (lot : List Nat) (neg : Bool) (d : D) (hd : d = .tuple (ofN lot) ∨ d = .list (ofN lot)) : b2 (dIn neg) (some (.int x)) (some d) = some (.bool (if neg then !decide (x ∈ lot) else decide (x ∈ lot))) := by
  have pl : ∀ lot : List Nat, PyData.plainAll (ofN lot) = true ∧ PyData.depthAll (ofN lot) = 0 := fun lot => by
    induction lot with
    | nil => exact ⟨rfl, rfl⟩
    | cons y ys ih =>
      obtain ⟨h1, h2⟩ := ih
      have e : ofN (y :: ys) = PyData.int y :: ofN ys := rfl
      rw [e]
      exact ⟨by simp [PyData.plainAll, PyData.plain, h1], by simp [PyData.depthAll, PyData.depth, h2]⟩
  obtain ⟨h1, h2⟩ := pl lot
  have ok : inOk (.int x) (ofN lot) = true := by
    simp only [inOk, h1, h2, Bool.true_and, Bool.and_eq_true, decide_eq_true_eq]
    refine ⟨rfl, by omega⟩
  have e : (ofN lot).any (fun y => PyData.eqv y (.int x)) = decide (x ∈ lot) := by
    unfold ofN
    rw [List.any_map]
    by_cases h : x ∈ lot
    · rw [decide_eq_true h, List.any_eq_true]
      exact ⟨_, h, by simp [PyData.eqv]⟩
    · rw [decide_eq_false h, List.any_eq_false]
      intro y hy
      simp only [Function.comp, PyData.eqv, beq_iff_eq]
      intro e
      have : y = x := by omega
      exact h (this ▸ hy)
  have key : ∀ d, d = PyData.tuple (ofN lot) ∨ d = PyData.list (ofN lot) → dIn neg (.int x) d = if inOk (.int x) (ofN lot) = true then some (.bool (if neg = true then !((ofN lot).any fun y => PyData.eqv y (.int x)) else (ofN lot).any fun y => PyData.eqv y (.int x))) else none := fun d hd => by
    rcases hd with rfl | rfl <;> rfl
  rw [b2_some, key d hd, if_pos ok, e]
theorem in_tup (x : Nat) (lot : List Nat) : b2 (dIn false) (some (.int x)) (some (.tuple (ofN lot))) = some (.bool (decide (x ∈ lot))) := in_places x lot false _ (.inl rfl)
theorem notin_tup (x : Nat) (lot : List Nat) : b2 (dIn true) (some (.int x)) (some (.tuple (ofN lot))) = some (.bool (!decide (x ∈ lot))) := in_places x lot true _ (.inl rfl)
theorem in_lst (x : Nat) (lot : List Nat) : b2 (dIn false) (some (.int x)) (some (.list (ofN lot))) = some (.bool (decide (x ∈ lot))) := in_places x lot false _ (.inr rfl)
theorem notin_lst (x : Nat) (lot : List Nat) : b2 (dIn true) (some (.int x)) (some (.list (ofN lot))) = some (.bool (!decide (x ∈ lot))) := in_places x lot true _ (.inr rfl)
theorem ofN_app (xs ys : List Nat) : ofN xs ++ ofN ys = ofN (xs ++ ys) := by simp [ofN]
theorem imm_ofN (xs : List Nat) : immL (ofN xs) = true := immL_iff.mpr fun d hd => by
  obtain ⟨i, _, rfl⟩ := List.mem_map.mp hd
  rfl
section
variable {n : Nat} {ts : List (Nat × Nat)} {lot : List Nat} {p : Nat} {α : Type}
def more (n : Nat) (ts : List (Nat × Nat)) (lot : List Nat) (fs : List Nat) : List Nat := fs.flatMap fun o => (nbr n ts o).filter fun x => decide (x ∈ lot)
theorem nbr_len (n : Nat) (ts : List (Nat × Nat)) (o : Nat) : (nbr n ts o).length ≤ n := by
  unfold nbr
  refine Nat.le_trans (List.length_filter_le _ _) ?_
  rw [List.length_range]
  exact Nat.le_refl _
theorem more_loop (W : Wb n ts) {k : D → Option α} : ∀ (fs acc : List Nat), acc.length + 12 * fs.length < 100000 →
    forO (S := D) (fun s11 one15 kk12 => ((b2 dAdd (some s11) ((lcO ((C2 m__law_near (some (webD n ts)) (some one15)).bind dItems) fun other17 => turnO ((b2 (dIn false) (some other17) (some (PyData.tuple (ofN lot)))).bind asB) (some other17)).map PyData.list)).bind fun more16 => (kk12 more16))) (ofN fs) (.list (ofN acc)) k = k (.list (ofN (acc ++ more n ts lot fs)))
  | [], acc, _ => by
    rw [more, List.flatMap_nil, List.append_nil]
    rfl
  | o :: fs, acc, hl => by
    rw [List.length_cons] at hl
    have hn := W.hi
    have l1 := nbr_len n ts o
    have l2 := List.length_filter_le (fun x => decide (x ∈ lot)) (nbr n ts o)
    have e1 : (lcO ((C2 m__law_near (some (webD n ts)) (some (PyData.int o))).bind dItems) fun other17 => turnO ((b2 (dIn false) (some other17) (some (PyData.tuple (ofN lot)))).bind asB) (some other17)).map PyData.list = some (.list (ofN ((nbr n ts o).filter fun x => decide (x ∈ lot)))) := by
      rw [near_eval W, items_tup, lc_places (p := fun x => decide (x ∈ lot)) rfl (by omega) fun x _ => by rw [in_tup, asB_bool]]
      rfl
    refine (?_ : (b2 dAdd (some (PyData.list (ofN acc))) ((lcO ((C2 m__law_near (some (webD n ts)) (some (PyData.int o))).bind dItems) fun other17 => turnO ((b2 (dIn false) (some other17) (some (PyData.tuple (ofN lot)))).bind asB) (some other17)).map PyData.list)).bind _ = _)
    rw [add_listsO e1 (by simp only [ofN_len, sizeLine_eq]; omega), Option.bind_some, ofN_app]
    refine (more_loop W fs _ (by rw [List.length_append]; omega)).trans ?_
    have e : more n ts lot (o :: fs) = ((nbr n ts o).filter fun x => decide (x ∈ lot)) ++ more n ts lot fs := by
      rw [more, List.flatMap_cons]
      rfl
    rw [e, List.append_assoc]
theorem wider_more {fs : List Nat} (hf : ∀ x ∈ fs, x < n) (z : Nat) : z ∈ wider n ts lot fs ↔ z ∈ fs ++ more n ts lot fs := by
  rw [wider_mem hf, List.mem_append]
  unfold more
  simp only [List.mem_flatMap, List.mem_filter, decide_eq_true_eq]
  exact ⟨fun h => h.imp id fun ⟨h1, o, h2, h3⟩ => ⟨o, h2, h3, h1⟩, fun h => h.imp id fun ⟨o, h2, h3, h1⟩ => ⟨h1, o, h2, h3⟩⟩
theorem more_len (W : Wb n ts) : ∀ fs : List Nat, (more n ts lot fs).length ≤ 12 * fs.length
  | [] => by simp [more]
  | o :: fs => by
    have := more_len W fs
    have hn := W.hi
    have l1 := nbr_len n ts o
    have l2 := List.length_filter_le (fun x => decide (x ∈ lot)) (nbr n ts o)
    have e : more n ts lot (o :: fs) = ((nbr n ts o).filter fun x => decide (x ∈ lot)) ++ more n ts lot fs := by
      rw [more, List.flatMap_cons]
      rfl
    rw [e, List.length_append, List.length_cons]
    omega
theorem asc_len {xs : List Nat} (h : Asc xs) (hl : ∀ x ∈ xs, x < n) : xs.length ≤ n := by
  have := nat_nodup_len xs (List.range n) (asc_nodup h) fun x hx => List.mem_range.mpr (hl x hx)
  rwa [List.length_range] at this
theorem rounds_len (hp : p < n) (k : Nat) : (rounds n ts lot p k).length ≤ n := asc_len (rounds_asc k) (rounds_lt hp k)
theorem turn_loop (W : Wb n ts) (hp : p < n) {k : D → Option α} : ∀ (ds : List D) (i : Nat),
    forO (S := D) (fun s5 turn9 kk6 => (((C1 dItems (some s5)).map PyData.list).bind fun more10 => (((some s5).bind dItems).bind fun ds => forO (S := D) (fun s11 one15 kk12 => ((b2 dAdd (some s11) ((lcO ((C2 m__law_near (some (webD n ts)) (some one15)).bind dItems) fun other17 => turnO ((b2 (dIn false) (some other17) (some (PyData.tuple (ofN lot)))).bind asB) (some other17)).map PyData.list)).bind fun more16 => (kk12 more16))) ds more10 fun s14 => (((C1 dSS (some s14)).map PyData.list).bind fun found18 => (kk6 found18)))))
      ds (.list (ofN (rounds n ts lot p i))) k = k (.list (ofN (rounds n ts lot p (i + ds.length))))
  | [], i => rfl
  | d :: ds, i => by
    have hn := W.hi
    have l0 := rounds_len (ts := ts) (lot := lot) hp i
    have l1 := more_len (lot := lot) W (rounds n ts lot p i)
    refine (?_ : forO (S := D) (fun s11 one15 kk12 => ((b2 dAdd (some s11) ((lcO ((C2 m__law_near (some (webD n ts)) (some one15)).bind dItems) fun other17 => turnO ((b2 (dIn false) (some other17) (some (PyData.tuple (ofN lot)))).bind asB) (some other17)).map PyData.list)).bind fun more16 => (kk12 more16))) (ofN (rounds n ts lot p i)) (.list (ofN (rounds n ts lot p i))) (fun s14 => (((C1 dSS (some s14)).map PyData.list).bind fun found18 => _)) = _)
    rw [more_loop W _ _ (by omega), ss_one (ys := rounds n ts lot p (i + 1)) rfl (by rw [List.length_append]; omega) (rounds_asc _) (by have := rounds_len (ts := ts) (lot := lot) hp (i + 1); omega) fun z => wider_more (rounds_lt hp i) z]
    refine (turn_loop W hp ds (i + 1)).trans ?_
    have : i + 1 + ds.length = i + (d :: ds).length := by rw [List.length_cons]; omega
    rw [this]
theorem len_tup (xs : List Nat) : C1 dLen (some (PyData.tuple (ofN xs))) = some (.int (xs.length : Nat)) := by
  show some (PyData.int ((ofN xs).length : Nat)) = _
  rw [ofN_len]
theorem len_lst (xs : List Nat) : C1 dLen (some (PyData.list (ofN xs))) = some (.int (xs.length : Nat)) := by
  show some (PyData.int ((ofN xs).length : Nat)) = _
  rw [ofN_len]
theorem range_items {n : Nat} (hn : n < 100000) : C1 (fun x => dRange [x]) (some (PyData.int (n : Int))) = some (ofN (List.range n)) := by
  have h : small62 (n : Int) = true := by
    simp only [small62, decide_eq_true_eq]
    omega
  rw [c1_some]
  simp only [dRange, h, if_true]
  rw [rangeD0]
  rfl
theorem lawPiece_eval (W : Wb n ts) (hp : p < n) (hl : lot.length < 100000) : C3 m__law_piece (some (webD n ts)) (some (.tuple (ofN lot))) (some (.int p)) = some (.tuple (ofN (piece n ts lot p))) := by
  rw [c3_some]
  unfold m__law_piece
  rw [len_tup, range_items hl]
  refine (turn_loop (lot := lot) W hp (ofN (List.range lot.length)) 0).trans ?_
  rw [ofN_len, List.length_range, Nat.zero_add, rounds_piece hp]
  rfl
theorem lt_nat (a b : Nat) : b2 dLt (some (PyData.int a)) (some (.int b)) = some (.bool (decide (a < b))) := by
  show some (PyData.bool (decide ((a : Int) < (b : Int)))) = _
  congr 2
  rw [Bool.eq_iff_iff]
  simp only [decide_eq_true_eq]
  omega
theorem ix_lst {xs : List Nat} {i : Nat} (h : i < xs.length) : b2 dIx (some (.list (ofN xs))) (some (.int i)) = some (.int (xs[i] : Nat)) := by
  rw [b2_some, dIx_list (by omega) (by rw [ofN_len]; omega), Int.toNat_natCast]
  unfold ofN
  rw [List.getElem?_map, List.getElem?_eq_getElem h]
  rfl
theorem ix_tup {xs : List Nat} {i : Nat} (h : i < xs.length) : b2 dIx (some (.tuple (ofN xs))) (some (.int i)) = some (.int (xs[i] : Nat)) := by
  rw [b2_some, dIx_tup (by omega) (by rw [ofN_len]; omega), Int.toNat_natCast]
  unfold ofN
  rw [List.getElem?_map, List.getElem?_eq_getElem h]
  rfl
theorem while_step {S : Type} {c : S → Option Bool} {body : S → (S → Option α) → Option α} {f : Nat} {s : S} {k : S → Option α} (h : c s = some true) : whileO c body (f + 1) s k = body s fun s' => whileO c body f s' k := by
  rw [whileO, h]
  rfl
theorem while_end {S : Type} {c : S → Option Bool} {body : S → (S → Option α) → Option α} {f : Nat} {s : S} {k : S → Option α} (h : c s = some false) : whileO c body (f + 1) s k = k s := by
  rw [whileO, h]
  rfl
theorem augL_ok {ds es : List D} {o : Option (List D)} {k : List D → Option α} (ho : o = some es) (h : ds.length + es.length ≤ sizeLine) : augL ds o k = k (ds ++ es) := by
  subst ho
  exact if_pos h
theorem piece_loop (hn : n < 5000) (hp : p < n) {k : List D × D → Option α} : ∀ (f i : Nat) (fs : List Nat), fs.Nodup → p ∈ fs → (∀ x ∈ fs, Rch n ts lot p x) → i ≤ fs.length → (∀ j, (h : j < fs.length) → j < i → ∀ y ∈ nbr n ts fs[j], y ∈ lot → y ∈ fs) → n < f + i →
    ∃ gs : List Nat, gs.Nodup ∧ (∀ z, z ∈ piece n ts lot p ↔ z ∈ gs) ∧ whileO (S := List D × D) (fun s8 => ((b2 dLt (some s8.2) (C1 dLen (some (PyData.list s8.1)))).bind asB)) (fun s8 kk9 => (augL s8.1 (immLO (lcO ((C2 m_neighbours (some (webD n ts)) (b2 dIx (some (PyData.list s8.1)) (some s8.2))).bind dItems) fun other13 => turnO (andO ((b2 (dIn false) (some other13) (some (PyData.tuple (ofN lot)))).bind asB) ((b2 (dIn true) (some other13) (some (PyData.list s8.1))).bind asB)) (some other13))) fun found12 => (augI s8.2 (some (PyData.int 1)) fun at14 => (kk9 (found12, at14))))) f (ofN fs, .int i) k = k (ofN gs, .int (gs.length : Nat))
  | 0, i, fs, h1, _, h3, h4, _, hf => by
    have := nat_nodup_len fs (List.range n) h1 fun x hx => List.mem_range.mpr ((h3 x hx).lt hp)
    rw [List.length_range] at this
    omega
  | f + 1, i, fs, h1, h2, h3, h4, h5, hf => by
    have c : (b2 dLt (some (PyData.int i)) (C1 dLen (some (PyData.list (ofN fs))))).bind asB = some (decide (i < fs.length)) := by rw [len_lst, lt_nat, asB_bool]
    by_cases hi : i < fs.length
    · have e1 : immLO (lcO ((C2 m_neighbours (some (webD n ts)) (b2 dIx (some (PyData.list (ofN fs))) (some (.int i)))).bind dItems) fun other13 => turnO (andO ((b2 (dIn false) (some other13) (some (PyData.tuple (ofN lot)))).bind asB) ((b2 (dIn true) (some other13) (some (PyData.list (ofN fs)))).bind asB)) (some other13)) = some (ofN ((nbr n ts fs[i]).filter fun x => decide (x ∈ lot) && !decide (x ∈ fs))) := by
        rw [ix_lst hi, nbrs_eval (by omega), items_tup, lc_places (p := fun x => decide (x ∈ lot) && !decide (x ∈ fs)) rfl (by have := nbr_len n ts fs[i]; omega) fun x _ => by rw [in_tup, notin_lst, asB_bool, asB_bool, andO_some]]
        show (if immL (ofN _) = true then some (ofN _) else none) = _
        rw [if_pos (imm_ofN _)]
      have hm : ∀ x, x ∈ (nbr n ts fs[i]).filter (fun x => decide (x ∈ lot) && !decide (x ∈ fs)) ↔ x ∈ nbr n ts fs[i] ∧ x ∈ lot ∧ x ∉ fs := fun x => by
        rw [List.mem_filter, Bool.and_eq_true, Bool.not_eq_true', decide_eq_true_eq, decide_eq_false_iff_not]
      have r1 : ∀ x ∈ fs ++ (nbr n ts fs[i]).filter (fun x => decide (x ∈ lot) && !decide (x ∈ fs)), Rch n ts lot p x := fun x hx => by
        rcases List.mem_append.mp hx with hx | hx
        · exact h3 x hx
        · obtain ⟨a, b, _⟩ := (hm x).mp hx
          exact .step (h3 _ (List.getElem_mem hi)) a b
      have nd : (fs ++ (nbr n ts fs[i]).filter fun x => decide (x ∈ lot) && !decide (x ∈ fs)).Nodup := by
        refine List.nodup_append.mpr ⟨h1, asc_nodup (asc_filter _ (nbr_asc _ _ _)), fun a ha b hb e => ?_⟩
        subst e
        exact ((hm a).mp hb).2.2 ha
      have hlen := nat_nodup_len _ (List.range n) nd fun x hx => List.mem_range.mpr ((r1 x hx).lt hp)
      rw [List.length_range] at hlen
      obtain ⟨gs, g1, g2, g3⟩ := piece_loop hn hp (k := k) f (i + 1) (fs ++ (nbr n ts fs[i]).filter fun x => decide (x ∈ lot) && !decide (x ∈ fs)) nd (List.mem_append_left _ h2) r1 (by rw [List.length_append]; omega) (fun j hj hji y hy hl => by
        by_cases hj2 : j < fs.length
        · rw [List.getElem_append_left hj2] at hy
          by_cases e : j = i
          · subst e
            by_cases hin : y ∈ fs
            · exact List.mem_append_left _ hin
            · exact List.mem_append_right _ ((hm y).mpr ⟨hy, hl, hin⟩)
          · exact List.mem_append_left _ (h5 j hj2 (by omega) y hy hl)
        · omega) (by omega)
      refine ⟨gs, g1, g2, ?_⟩
      rw [← g3]
      refine (while_step (s := (ofN fs, PyData.int i)) (c.trans (by rw [decide_eq_true hi]))).trans ((augL_ok e1 (by rw [List.length_append] at hlen; simp only [ofN_len, sizeLine_eq]; omega)).trans ?_)
      rw [ofN_app]
      rfl
    · have ei : i = fs.length := by omega
      refine ⟨fs, h1, clo_one hp (fun x hx y hy hl => ?_) h2 h3, ?_⟩
      · obtain ⟨j, hj, rfl⟩ := List.getElem_of_mem hx
        exact h5 j hj (by omega) y hy hl
      · refine (while_end (s := (ofN fs, PyData.int i)) (c.trans (by rw [decide_eq_false hi]))).trans ?_
        rw [ei]
end
section
variable {n : Nat} {ts : List (Nat × Nat)} {lot : List Nat} {p : Nat} {α : Type}
theorem piece_unf (w l q : D) : m_piece_of w l q = ((consL (consO (some q) (some [])) (consD (some (PyData.int 0)) (some []))).bind (cel2 (fun c5 c7 => (onL (fun found4 => (onD (fun at6 => (whileO (S := List D × D) (fun s8 => ((b2 dLt (some s8.2) (C1 dLen (some (PyData.list s8.1)))).bind asB)) (fun s8 kk9 => (augL s8.1 (immLO (lcO ((C2 m_neighbours (some w) (b2 dIx (some (PyData.list s8.1)) (some s8.2))).bind dItems) fun other13 => turnO (andO ((b2 (dIn false) (some other13) (some l)).bind asB) ((b2 (dIn true) (some other13) (some (PyData.list s8.1))).bind asB)) (some other13))) fun found12 => (augI s8.2 (some (PyData.int 1)) fun at14 => (kk9 (found12, at14))))) 10000 (found4, at6) fun s11 => (C1 dTup ((C1 dSort (some (PyData.list s11.1))).map PyData.list)))) c7)) c5)))) := by
  unfold m_piece_of
  rfl
theorem piece_unf2 (w l q : D) : ∃ N, 5000 < N ∧ m_piece_of w l q = (whileO (S := List D × D) (fun s8 => ((b2 dLt (some s8.2) (C1 dLen (some (PyData.list s8.1)))).bind asB)) (fun s8 kk9 => (augL s8.1 (immLO (lcO ((C2 m_neighbours (some w) (b2 dIx (some (PyData.list s8.1)) (some s8.2))).bind dItems) fun other13 => turnO (andO ((b2 (dIn false) (some other13) (some l)).bind asB) ((b2 (dIn true) (some other13) (some (PyData.list s8.1))).bind asB)) (some other13))) fun found12 => (augI s8.2 (some (PyData.int 1)) fun at14 => (kk9 (found12, at14))))) N ([q], .int ((0 : Nat) : Int)) fun s11 => (C1 dTup ((C1 dSort (some (PyData.list s11.1))).map PyData.list))) := by
  refine ⟨10000, by decide, ?_⟩
  rw [piece_unf]
  generalize (10000 : Nat) = N
  rfl
theorem pieceOf_eval (hn : n < 5000) (hp : p < n) : C3 m_piece_of (some (webD n ts)) (some (.tuple (ofN lot))) (some (.int p)) = some (.tuple (ofN (piece n ts lot p))) := by
  rw [c3_some]
  obtain ⟨N, hN, e⟩ := piece_unf2 (webD n ts) (.tuple (ofN lot)) (.int p)
  obtain ⟨gs, g1, g2, g3⟩ := piece_loop (ts := ts) (lot := lot) hn hp (k := fun s11 => (C1 dTup ((C1 dSort (some (PyData.list s11.1))).map PyData.list))) N 0 [p] (List.nodup_cons.mpr ⟨by simp, List.nodup_nil⟩) (List.mem_singleton.mpr rfl) (fun x hx => by rw [List.mem_singleton.mp hx]; exact .base) (Nat.zero_le _) (fun j _ h => absurd h (Nat.not_lt_zero _)) (by omega)
  rw [e]
  refine g3.trans ?_
  have hl := nat_nodup_len gs (List.range n) g1 fun x hx => List.mem_range.mpr (((piece_mem hp).mp ((g2 x).mpr hx)).lt hp)
  rw [List.length_range] at hl
  show C1 dTup ((C1 dSort (some (PyData.list (ofN gs)))).map PyData.list) = _
  rw [sort_one (.inl rfl) (by omega) g1 (piece_asc n ts lot p) g2]
  rfl
end
theorem cO_gen {α : Type} {F : D → Option (Option D)} {p : α → Bool} {g h : α → D} : ∀ (xs : List α), (∀ x ∈ xs, F (g x) = some (if p x = true then some (h x) else none)) → cO F (xs.map g) = some ((xs.filter p).map h)
  | [], _ => rfl
  | x :: xs, hf => by
    show (F (g x)).bind _ = _
    rw [hf x List.mem_cons_self]
    have ih := cO_gen (F := F) (p := p) (g := g) (h := h) xs fun y hy => hf y (List.mem_cons_of_mem _ hy)
    show (cO F (xs.map g)).bind _ = _
    rw [ih]
    by_cases hp : p x = true
    · rw [if_pos hp, List.filter_cons_of_pos hp]; rfl
    · rw [if_neg hp, List.filter_cons_of_neg hp]; rfl
theorem lcO_gen {α : Type} {F : D → Option (Option D)} {p : α → Bool} {g h : α → D} {oi : Option (List D)} (xs : List α) (hi : oi = some (xs.map g)) (hl : xs.length < sizeLine) (hf : ∀ x ∈ xs, F (g x) = some (if p x = true then some (h x) else none)) : lcO oi F = some ((xs.filter p).map h) := by
  rw [hi]
  show (if (xs.map g).length < sizeLine then cO _ (xs.map g) else none) = _
  rw [if_pos (by rw [List.length_map]; exact hl)]
  exact cO_gen xs hf
/-! ### a web made of pairs -/
def rowI (p : Nat × Nat) : List Int := [(p.1 : Int), (p.2 : Int)]
theorem tup_row (p : Nat × Nat) : tupD (rowI p) = tieD p := rfl
theorem row_inj {p q : Nat × Nat} (h : rowI p = rowI q) : p = q := by
  obtain ⟨a, b⟩ := p
  obtain ⟨c, d⟩ := q
  simp only [rowI, List.cons.injEq, and_true] at h
  obtain ⟨h1, h2⟩ := h
  have : a = c := by omega
  have : b = d := by omega
  simp [*]
theorem row_le (p q : Nat × Nat) : rowI p ≤ rowI q ↔ p.1 < q.1 ∨ (p.1 = q.1 ∧ p.2 ≤ q.2) := by
  have h : ¬ rowI q < rowI p ↔ rowI p ≤ rowI q := List.not_lt
  rw [← h]
  unfold rowI
  rw [List.cons_lt_cons_iff, List.cons_lt_cons_iff]
  simp only [List.not_lt_nil, and_false, or_false]
  omega
def pairLe (p q : Nat × Nat) : Bool := decide (rowI p ≤ rowI q)
def ordP (ps : List (Nat × Nat)) : List (Nat × Nat) := (dd ps).mergeSort pairLe
theorem ordP_mem {p : Nat × Nat} (ps : List (Nat × Nat)) : p ∈ ordP ps ↔ p ∈ ps := by
  unfold ordP
  rw [(List.mergeSort_perm _ _).mem_iff, mem_dd]
theorem ordP_len (ps : List (Nat × Nat)) : (ordP ps).length ≤ ps.length := by
  unfold ordP
  rw [List.length_mergeSort]
  exact dd_le ps
theorem ordP_asc (ps : List (Nat × Nat)) : (ordP ps).Pairwise fun p q => p.1 < q.1 ∨ (p.1 = q.1 ∧ p.2 < q.2) := by
  have h := List.pairwise_mergeSort (le := pairLe) (fun a b c h1 h2 => decide_eq_true (List.le_trans (of_decide_eq_true h1) (of_decide_eq_true h2))) (fun a b => by
    rcases List.le_total (rowI a) (rowI b) with h | h
    · simp [pairLe, h]
    · simp [pairLe, h]) (dd ps)
  have n : (ordP ps).Nodup := ((List.mergeSort_perm _ _).nodup_iff).mpr (nodup_dd ps)
  refine (le_strict h n).imp fun {a b} ⟨h1, h2⟩ => ?_
  have := (row_le a b).mp (of_decide_eq_true h1)
  by_cases e1 : a.1 = b.1
  · by_cases e2 : a.2 = b.2
    · exact absurd (Prod.ext e1 e2) h2
    · omega
  · omega
theorem ssT_pairs (ps : List (Nat × Nat)) : (ordP ps).map rowI = ssT (ps.map rowI) := by
  refine ssT_one ?_ fun k => ?_
  · refine List.pairwise_map.mpr ((ordP_asc ps).imp fun {a b} h => ⟨(row_le a b).mpr (by omega), fun e => ?_⟩)
    have := row_inj e
    subst this
    omega
  · simp only [List.mem_map, ordP_mem]
theorem dSS_pairs (ps : List (Nat × Nat)) (h : ps.length < 76) : dSS (.list (ps.map tieD)) = some ((ordP ps).map tieD) := by
  cases ps with
  | nil => 
    have : (ordP ([] : List (Nat × Nat))) = [] := by
      have := ordP_len ([] : List (Nat × Nat))
      exact List.length_eq_zero_iff.mp (by simpa using this)
    rw [this]
    have e : ssI [] = [] := by
      have : ∀ k, ¬ k ∈ ssI [] := fun k => by rw [ssI_mem]; exact List.not_mem_nil
      exact List.eq_nil_iff_forall_not_mem.mpr this
    unfold dSS
    simp only [List.map_nil, intsOf]
    rw [if_pos (by decide), e]
    rfl
  | cons p ps =>
    have e1 : intsOf ((p :: ps).map tieD) = none := rfl
    have e2 : (p :: ps).map tieD = ((p :: ps).map rowI).map tupD := by rw [List.map_map]; rfl
    unfold dSS
    simp only [e1]
    rw [e2, rowsD_map, Option.bind_some, if_pos, ← ssT_pairs, List.map_map]
    · rfl
    · refine ⟨by rw [List.length_map]; exact h, ?_⟩
      rw [List.all_map, List.all_eq_true]
      intro q _
      rfl
/-- the ties that pairs make -/
def tiesOf (ps : List (Nat × Nat)) : List (Nat × Nat) := ordP ((ps.filter fun p => decide (p.1 ≠ p.2)).map fun p => (min p.1 p.2, max p.1 p.2))
theorem tiesOf_mem (a b : Nat) (ps : List (Nat × Nat)) : (a, b) ∈ tiesOf ps ↔ a < b ∧ ((a, b) ∈ ps ∨ (b, a) ∈ ps) := by
  unfold tiesOf
  rw [ordP_mem, List.mem_map]
  simp only [List.mem_filter, decide_eq_true_eq, Prod.exists, Prod.mk.injEq]
  constructor
  · rintro ⟨x, y, ⟨h1, h2⟩, h3, h4⟩
    refine ⟨by omega, ?_⟩
    rcases Nat.lt_or_gt_of_ne h2 with h | h
    · have e1 : x = a := by omega
      have e2 : y = b := by omega
      subst e1; subst e2
      exact .inl h1
    · have e1 : y = a := by omega
      have e2 : x = b := by omega
      subst e1; subst e2
      exact .inr h1
  · rintro ⟨h, h1 | h1⟩
    · exact ⟨a, b, ⟨h1, by omega⟩, by omega, by omega⟩
    · exact ⟨b, a, ⟨h1, by omega⟩, by omega, by omega⟩
theorem lawWeb_eval {n : Nat} {ps : List (Nat × Nat)} {o : Option D} (ho : o = some (.list (ps.map tieD)) ∨ o = some (.tuple (ps.map tieD))) (h : ps.length < 76) : C2 m__law_web (some (.int n)) o = some (webD n (tiesOf ps)) := by
  have key : ∀ d : D, (some d).bind dItems = some (ps.map tieD) → m__law_web (.int n) d = some (webD n (tiesOf ps)) := fun d hd => by
    unfold m__law_web
    have e := lcO_gen (F := fun d => un2 d fun a3 b4 => turnO ((b2 dNe (some a3) (some b4)).bind asB) ((consO (C2 dMin2 (some a3) (some b4)) (consO (C2 dMax2 (some a3) (some b4)) (some []))).map PyData.tuple)) (p := fun p : Nat × Nat => decide (p.1 ≠ p.2)) (g := tieD) (h := fun p => tieD (min p.1 p.2, max p.1 p.2)) ps hd (by rw [sizeLine_eq]; omega) fun p _ => by
      show turnO ((b2 dNe (some (PyData.int p.1)) (some (.int p.2))).bind asB) ((consO (C2 dMin2 (some (PyData.int p.1)) (some (.int p.2))) (consO (C2 dMax2 (some (PyData.int p.1)) (some (.int p.2))) (some []))).map PyData.tuple) = _
      rw [ne_nat, asB_bool, min2_nat, max2_nat]
      by_cases hh : p.1 ≠ p.2
      · rw [decide_eq_true hh]; rfl
      · rw [decide_eq_false hh]; rfl
    rw [e]
    have e2 : (ps.filter fun p => decide (p.1 ≠ p.2)).map (fun p => tieD (min p.1 p.2, max p.1 p.2)) = ((ps.filter fun p => decide (p.1 ≠ p.2)).map fun p => (min p.1 p.2, max p.1 p.2)).map tieD := by rw [List.map_map]; rfl
    rw [e2, Option.map_some, c1_some, dSS_pairs _ (by rw [List.length_map]; exact Nat.lt_of_le_of_lt (List.length_filter_le _ _) h)]
    rfl
  rcases ho with rfl | rfl
  · exact key _ rfl
  · exact key _ rfl
theorem tiesOf_web {n : Nat} {ps : List (Nat × Nat)} (h1 : 1 ≤ n) (h2 : n ≤ 12) (hl : ps.length < 76) (hp : ∀ p ∈ ps, p.1 < n ∧ p.2 < n) : Wb n (tiesOf ps) where
  lo := h1
  hi := h2
  few := by
    have := ordP_len ((ps.filter fun p => decide (p.1 ≠ p.2)).map fun p => (min p.1 p.2, max p.1 p.2))
    rw [List.length_map] at this
    have := List.length_filter_le (fun p : Nat × Nat => decide (p.1 ≠ p.2)) ps
    unfold tiesOf
    omega
  ord := fun p hm => by
    obtain ⟨a, b⟩ := p
    obtain ⟨h, h3⟩ := (tiesOf_mem a b ps).mp hm
    refine ⟨h, ?_⟩
    rcases h3 with h3 | h3
    · exact (hp _ h3).2
    · exact (hp _ h3).1
  asc := ordP_asc _
theorem Sp.useD {k : Nat} {T : M D} {Φ : D → Prop} {Ts : M (List Cell)} {q : List Cell → Nat → Prop} {m : Nat} (h : Sp k T Φ) (hm : m + k ≤ 1000000000) (hq : ∀ a m', m' ≤ m + k → Φ a → Ts (fun cs m2 => q (.dat a :: cs) m2) m') : consDM T Ts q m := h _ m hm hq
theorem sp_lcv {k k2 L : Nat} {Ti : M (List D)} {f : D → M D} {Φ : D → Prop} (hi : Sp k2 Ti (fun es => es.length ≤ L)) (hL : L < sizeLine) (h : ∀ d, Sp k (f d) Φ) : Sp (k2 + L * k) (lcM Ti fun d => turnM (lift (some true)) (f d)) (fun es => es.length ≤ L ∧ ∀ e ∈ es, Φ e) := fun q m hm hq =>
  hi _ m (by omega) fun ds m1 h1 hd => by
    refine ⟨Nat.lt_of_le_of_lt hd hL, ?_⟩
    have hmul : ds.length * k ≤ L * k := Nat.mul_le_mul_right k hd
    refine (sp_cM (Φ := fun _ => Φ) fun d _ => h d).use (by omega) fun es m2 h2 he => hq es m2 (by omega) ?_
    have hl := All2.len he
    refine ⟨by omega, fun e hm => ?_⟩
    have gen : ∀ {ds es : List D}, All2 (fun _ => Φ) ds es → ∀ e ∈ es, Φ e := fun {ds} => by
      induction ds with
      | nil => intro es h; cases es with
        | nil => exact fun e h => nomatch h
        | cons _ _ => exact h.elim
      | cons d ds ih => intro es h; cases es with
        | nil => exact h.elim
        | cons e es => exact fun x hx => (List.mem_cons.mp hx).elim (fun e => e ▸ h.1) (ih h.2 x)
    exact gen he e hm
def isPr (n : Nat) (d : D) : Prop := ∃ p : Nat × Nat, d = tieD p ∧ p.1 < n ∧ p.2 < n
/-- a list of at most L pairs of places -/
def PL (n L : Nat) (ds : List D) : Prop := ds.length ≤ L ∧ ∀ d ∈ ds, isPr n d
theorem PL.pairs {n L : Nat} {ds : List D} (h : PL n L ds) : ∃ ps : List (Nat × Nat), ds = ps.map tieD ∧ ps.length ≤ L ∧ ∀ p ∈ ps, p.1 < n ∧ p.2 < n := by
  obtain ⟨hl, h⟩ := h
  have gen : ∀ ds : List D, (∀ d ∈ ds, isPr n d) → ∃ ps : List (Nat × Nat), ds = ps.map tieD ∧ ∀ p ∈ ps, p.1 < n ∧ p.2 < n := fun ds => by
    induction ds with
    | nil => exact fun _ => ⟨[], rfl, fun _ h => nomatch h⟩
    | cons d ds ih =>
      intro h
      obtain ⟨p, rfl, hp⟩ := h d List.mem_cons_self
      obtain ⟨ps, rfl, h2⟩ := ih fun d hd => h d (List.mem_cons_of_mem _ hd)
      exact ⟨p :: ps, rfl, fun q hq => (List.mem_cons.mp hq).elim (fun e => e ▸ hp) (h2 q)⟩
  obtain ⟨ps, rfl, h2⟩ := gen ds h
  rw [List.length_map] at hl
  exact ⟨ps, rfl, hl, h2⟩
theorem PL.web {n L : Nat} {ds : List D} {o : Option D} (h : PL n L ds) (ho : o = some (.list ds)) (hL : L < 76) (h1 : 1 ≤ n) (h12 : n ≤ 12) : ∃ ts, C2 m__law_web (some (.int n)) o = some (webD n ts) ∧ Wb n ts := by
  obtain ⟨ps, rfl, hl, hp⟩ := h.pairs
  exact ⟨_, lawWeb_eval (.inl ho) (by omega), tiesOf_web h1 h12 (by omega) hp⟩
theorem PL.app {n L L2 : Nat} {ds es : List D} (h : PL n L ds) (h2 : PL n L2 es) : PL n (L + L2) (ds ++ es) := by
  refine ⟨?_, fun d hd => (List.mem_append.mp hd).elim (h.2 d) (h2.2 d)⟩
  have h1 := h.1
  have h3 := h2.1
  rw [List.length_append]
  omega
theorem PL.mono {n L L2 : Nat} {ds : List D} (h : PL n L ds) (hl : L ≤ L2) : PL n L2 ds := ⟨Nat.le_trans h.1 hl, h.2⟩
theorem PL.add {n L L2 : Nat} {ds es : List D} {o : Option D} (h : PL n L ds) (h2 : PL n L2 es) (ho : o = some (.list es)) (hz : L + L2 < 1000) : b2 dAdd (some (.list ds)) o = some (.list (ds ++ es)) ∧ PL n (L + L2) (ds ++ es) := by
  have h1 := h.1
  have h3 := h2.1
  exact ⟨add_listsO ho (by rw [sizeLine_eq]; omega), h.app h2⟩
/-- a pure comprehension of pairs -/
theorem PL.lc {n L : Nat} {xs : List Nat} {o : Option (List D)} {f : D → Option D} (ho : o = some (ofN xs)) (hl : xs.length ≤ L) (hL : L < 1000) (hf : ∀ x ∈ xs, ∃ p : Nat × Nat, f (.int (x : Nat)) = some (tieD p) ∧ p.1 < n ∧ p.2 < n) : ∃ ds, lcO o (fun d => turnO (some true) (f d)) = some ds ∧ PL n L ds := by
  have hc : ∀ x : Nat, ∃ p : Nat × Nat, x ∈ xs → f (.int (x : Nat)) = some (tieD p) ∧ p.1 < n ∧ p.2 < n := fun x => by
    by_cases h : x ∈ xs
    · obtain ⟨p, hp⟩ := hf x h
      exact ⟨p, fun _ => hp⟩
    · exact ⟨(0, 0), fun e => absurd e h⟩
  have hq := Classical.axiomOfChoice hc
  obtain ⟨g, hg⟩ := hq
  refine ⟨xs.map fun x => tieD (g x), ?_, by rw [List.length_map]; exact hl, fun d hd => ?_⟩
  · exact lcO_map (g := fun (i : Nat) => PyData.int i) (h := fun x => tieD (g x)) xs ho (by rw [sizeLine_eq]; omega) fun x hx => (hg x hx).1
  · obtain ⟨x, hx, rfl⟩ := List.mem_map.mp hd
    exact ⟨_, rfl, (hg x hx).2⟩
theorem pair_ok {a b : Nat} {oa ob : Option D} (ha : oa = some (.int a)) (hb : ob = some (.int b)) : (consO oa (consO ob (some []))).map PyData.tuple = some (tieD (a, b)) := by
  subst ha; subst hb
  rfl
theorem sub_nat {a b : Nat} (h : b ≤ a) : b2 dSub (some (PyData.int a)) (some (.int b)) = some (.int ((a - b : Nat) : Int)) := by
  rw [sub_ok]
  congr 2
  omega
theorem add_nat (a b : Nat) : b2 dAdd (some (PyData.int a)) (some (.int b)) = some (.int ((a + b : Nat) : Int)) := by
  rw [add_ok]
  congr 2
theorem ix_neg {xs : List Nat} {k : Nat} (h : k < xs.length) (h1 : 0 < xs.length) : ∃ y, y ∈ xs ∧ b2 dIx (some (.tuple (ofN xs))) (b2 dSub (some (.int (k : Nat))) (some (PyData.int 1))) = some (.int (y : Nat)) := by
  by_cases hk : k = 0
  · subst hk
    refine ⟨xs[xs.length - 1], List.getElem_mem _, ?_⟩
    rw [sub_ok, b2_some]
    show atI (ofN xs) (((0 : Nat) : Int) - 1) = _
    have e : (ofN xs).length = xs.length := ofN_len xs
    unfold atI
    simp only [ixN, e]
    rw [if_neg (by omega), if_pos (by omega)]
    have : ((((0 : Nat) : Int) - 1) + (xs.length : Int)).toNat = xs.length - 1 := by omega
    rw [Option.bind_some, this]
    unfold ofN
    rw [List.getElem?_map, List.getElem?_eq_getElem (by omega)]
    rfl
  · have e := sub_nat (a := k) (b := 1) (by omega)
    refine ⟨xs[k - 1], List.getElem_mem _, ?_⟩
    refine (congrArg (b2 dIx (some (PyData.tuple (ofN xs)))) e).trans ?_
    exact ix_tup (by omega)
theorem range2_items {a n : Nat} (ha : a < 100000) (hn : n < 100000) : C2 (fun x y => dRange [x, y]) (some (PyData.int (a : Int))) (some (.int (n : Int))) = some (ofN ((List.range (n - a)).map fun i => i + a)) := by
  have h1 : small62 (a : Int) = true := by
    simp only [small62, decide_eq_true_eq]
    omega
  have h2 : small62 (n : Int) = true := by
    simp only [small62, decide_eq_true_eq]
    omega
  rw [c2_some]
  simp only [dRange, h1, h2, and_self, if_true]
  unfold rangeD ofN
  rw [List.map_map]
  have e : ((n : Int) - (a : Int)).toNat = n - a := by omega
  rw [e]
  refine congrArg some (List.map_congr_left fun i _ => ?_)
  show PyData.int ((a : Int) + (i : Int)) = PyData.int ((i + a : Nat) : Int)
  rw [Int.natCast_add, Int.add_comm]
theorem forK_cons {S : Type} {body : S → D → (S → Nat → Prop) → Nat → Prop} {d : D} {ds : List D} {s : S} {k : S → Nat → Prop} {m : Nat} : forK body (d :: ds) s k m = body s d (fun s' => forK body ds s' k) m := rfl
section
variable {n : Nat} {xs : List Nat} {q : D → Nat → Prop} {m : Nat}
def treeK (q : D → Nat → Prop) (n3 way5 order7 : D) (pairs9 : List D) : Nat → Prop := ((lift (C2 (fun x y => dRange [x, y]) (some (PyData.int 1)) (some n3))) fun ds => forK (S := List D) (fun s25 k29 kk26 => ((tupM (consM (op2 dIx (lift (some order7)) (drawM (consM (lift (some k29)) nilM) (G1 m__law_take))) (consM (lift (b2 dIx (some order7) (some k29))) nilM))) fun d31 m => s25.length < sizeLine ∧ ((kk26 (s25 ++ [d31]))) m)) ds pairs9 fun s28 => ((lift (b2 dIx ((consO (some (PyData.int 0)) (consO (some (PyData.int 1)) (consO (some (PyData.int 0)) (consO (some (PyData.int 0)) (consO (some (PyData.int 0)) (consO (some (PyData.int 2)) (consO (some (PyData.int 3)) (consO (some n3) (consO (b2 dMul (some (PyData.int 3)) (some n3)) (some [])))))))))).map PyData.list) (some way5))) fun more32 => ((appM (consM (lift (some n3)) (consM (op2 dAdd (lift (some (PyData.list s28))) (lstM (lcM (lift (C1 (fun x => dRange [x]) (some more32))) fun k33 => turnM (lift (some true)) (tupM (consM (drawM (consM (lift (some n3)) nilM) (G1 m__law_take)) (consM (drawM (consM (lift (some n3)) nilM) (G1 m__law_take)) nilM)))))) nilM)) (F2 m__law_web)) q)))
def ringK (q : D → Nat → Prop) (n3 order7 : D) (pairs9 : List D) : Nat → Prop := ((op2 dAdd (lift (some (PyData.int 2))) (drawM (consM (lift (b2 dSub (some n3) (some (PyData.int 4)))) nilM) (G1 m__law_take))) fun half16 => ((lstM (lift (consO (slO (some order7) (some none) ((b2 dAdd (some half16) (some (PyData.int 1))).bind asI)) (consO (slO (some order7) ((some half16).bind asI) (some none)) (some []))))) fun rings17 => ((lift ((some rings17).bind dItems)) fun ds => forK (S := D) (fun s18 ring22 kk19 => ((lift (b2 dAdd (some s18) ((lcO (C1 (fun x => dRange [x]) (C1 dLen (some ring22))) fun k24 => turnO (some true) ((consO (b2 dIx (some ring22) (b2 dSub (some k24) (some (PyData.int 1)))) (consO (b2 dIx (some ring22) (some k24)) (some []))).map PyData.tuple)).map PyData.list))) fun pairs23 => (kk19 pairs23))) ds (PyData.list pairs9) fun s21 => ((lift (C2 m__law_web (some n3) (some s21))) q))))
theorem sp_pair (h1 : 1 ≤ n) (h12 : n ≤ 12) : Sp 2 (tupM (consM (drawM (consM (lift (some (PyData.int (n : Nat)))) nilM) (G1 m__law_take)) (consM (drawM (consM (lift (some (PyData.int (n : Nat)))) nilM) (G1 m__law_take)) nilM))) (isPr n) := by
  have s := sp_draw (k := 0) (n := n) (sp_lift (a := PyData.int (n : Nat)) rfl) (by omega) (by omega)
  refine (sp_tup (sp_cons s (sp_cons s sp_nil))).mono (by omega) fun d hd => ?_
  obtain ⟨ds, rfl, a, r, rfl, ⟨u, rfl, hu⟩, b, r2, rfl, ⟨v, rfl, hv⟩, rfl⟩ := hd
  exact ⟨(u, v), rfl, hu, hv⟩
theorem sp_pairs {k2 L : Nat} {Ti : M (List D)} (h1 : 1 ≤ n) (h12 : n ≤ 12) (hi : Sp k2 Ti (fun es => es.length ≤ L)) (hL : L < 1000) : Sp (k2 + L * 2) (lcM Ti fun k12 => turnM (lift (some true)) (tupM (consM (drawM (consM (lift (some (PyData.int (n : Nat)))) nilM) (G1 m__law_take)) (consM (drawM (consM (lift (some (PyData.int (n : Nat)))) nilM) (G1 m__law_take)) nilM)))) (PL n L) :=
  (sp_lcv hi (by rw [sizeLine_eq]; omega) fun _ => sp_pair h1 h12).mono (Nat.le_refl _) fun es h => h
def WebOk (n : Nat) (d : D) : Prop := ∃ ts, d = webD n ts ∧ Wb n ts
theorem tree_loop (hxs : ∀ x ∈ xs, x < n) (hl : xs.length ≤ 12) {k : List D → Nat → Prop} : ∀ (ks : List Nat) (acc : List D) (m : Nat), (∀ j ∈ ks, 0 < j ∧ j < xs.length) → PL n acc.length acc → acc.length + ks.length < 1000 → m + ks.length ≤ 1000000000 → (∀ ds m', m' ≤ m + ks.length → PL n (acc.length + ks.length) ds → k ds m') →
    forK (S := List D) (fun s25 k29 kk26 => ((tupM (consM (op2 dIx (lift (some (PyData.tuple (ofN xs)))) (drawM (consM (lift (some k29)) nilM) (G1 m__law_take))) (consM (lift (b2 dIx (some (PyData.tuple (ofN xs))) (some k29))) nilM))) fun d31 m => s25.length < sizeLine ∧ ((kk26 (s25 ++ [d31]))) m)) (ofN ks) acc k m
  | [], acc, m, _, hp, _, _, hk => hk acc m (Nat.le_refl _) hp
  | j :: ks, acc, m, hj, hp, hz, hm, hk => by
    rw [List.length_cons] at hz hm hk
    obtain ⟨j1, j2⟩ := hj j List.mem_cons_self
    have s1 : Sp 1 (op2 dIx (lift (some (PyData.tuple (ofN xs)))) (drawM (consM (lift (some (PyData.int (j : Nat)))) nilM) (G1 m__law_take))) (fun d => ∃ a : Nat, d = .int a ∧ a < n) :=
      (sp_op2 (sp_lift rfl) (sp_draw (k := 0) (n := j) (sp_lift rfl) j1 (by omega)) fun x y hx hy => by
        obtain ⟨v, rfl, hv⟩ := hy
        subst hx
        exact ⟨_, ix_tup (by omega), _, rfl, hxs _ (List.getElem_mem _)⟩).mono (by omega) fun _ h => h
    have s2 : Sp 0 (lift (b2 dIx (some (PyData.tuple (ofN xs))) (some (PyData.int (j : Nat))))) (fun d => ∃ a : Nat, d = .int a ∧ a < n) :=
      (sp_lift (ix_tup j2)).mono (Nat.le_refl _) fun d h => ⟨_, h, hxs _ (List.getElem_mem _)⟩
    rw [show ofN (j :: ks) = PyData.int j :: ofN ks from rfl, forK_cons]
    refine (sp_tup (sp_cons s1 (sp_cons s2 sp_nil))).use (by omega) fun d m1 hm1 hd => ?_
    obtain ⟨ds, rfl, a, r, rfl, ⟨u, rfl, hu⟩, b, r2, rfl, ⟨v, rfl, hv⟩, rfl⟩ := hd
    refine ⟨by rw [sizeLine_eq]; omega, ?_⟩
    have hp2 : PL n (acc ++ [PyData.tuple [.int (u : Nat), .int (v : Nat)]]).length (acc ++ [PyData.tuple [.int (u : Nat), .int (v : Nat)]]) := ⟨Nat.le_refl _, fun d hd => by
      rcases List.mem_append.mp hd with hd | hd
      · exact hp.2 d hd
      · rw [List.mem_singleton.mp hd]
        exact ⟨(u, v), rfl, hu, hv⟩⟩
    have e1 : (acc ++ [PyData.tuple [.int (u : Nat), .int (v : Nat)]]).length = acc.length + 1 := by rw [List.length_append, List.length_singleton]
    refine tree_loop hxs hl ks _ m1 (fun i hi => hj i (List.mem_cons_of_mem _ hi)) hp2 (by rw [e1]; omega) (by omega) fun ds m' hm' hds => hk ds m' (by omega) ?_
    rw [e1] at hds
    exact hds.mono (by omega)
end
section
variable {n : Nat} {xs : List Nat} {q : D → Nat → Prop} {m : Nat}
theorem mul_nat {a b : Nat} (ha : a < 1000000) (hb : b < 1000000) : b2 dMul (some (PyData.int a)) (some (.int b)) = some (.int ((a * b : Nat) : Int)) := by
  rw [mul_ok (by rw [Int.natAbs_natCast]; exact Nat.lt_trans ha (by decide)) (by rw [Int.natAbs_natCast]; exact Nat.lt_trans hb (by decide))]
  congr 2
theorem more_ix {w : Nat} (hw : w < 9) (h12 : n ≤ 12) : ∃ r : Nat, r ≤ 36 ∧ b2 dIx ((consO (some (PyData.int 0)) (consO (some (PyData.int 1)) (consO (some (PyData.int 0)) (consO (some (PyData.int 0)) (consO (some (PyData.int 0)) (consO (some (PyData.int 2)) (consO (some (PyData.int 3)) (consO (some (PyData.int (n : Nat))) (consO (b2 dMul (some (PyData.int 3)) (some (.int (n : Nat)))) (some [])))))))))).map PyData.list) (some (.int (w : Nat))) = some (.int (r : Nat)) := by
  have e : b2 dMul (some (PyData.int 3)) (some (.int (n : Nat))) = some (.int ((3 * n : Nat) : Int)) := mul_nat (a := 3) (by decide) (by omega)
  rw [e]
  have hl : w < [0, 1, 0, 0, 0, 2, 3, n, 3 * n].length := hw
  refine ⟨[0, 1, 0, 0, 0, 2, 3, n, 3 * n][w], ?_, ix_lst hl⟩
  have := List.getElem_mem hl
  generalize [0, 1, 0, 0, 0, 2, 3, n, 3 * n][w] = z at this
  simp only [List.mem_cons, List.not_mem_nil, or_false] at this
  omega
theorem tree_ok {w : Nat} (hw : w < 9) (h1 : 1 ≤ n) (h12 : n ≤ 12) (hxs : ∀ x ∈ xs, x < n) (hlen : xs.length = n) (hm : m + 100 ≤ 1000000000) (hq : ∀ d m', m' ≤ m + 100 → WebOk n d → q d m') : treeK q (.int (n : Nat)) (.int (w : Nat)) (.tuple (ofN xs)) [] m := by
  unfold treeK
  refine ⟨_, range2_items (a := 1) (by decide) (by omega), ?_⟩
  have hks : ((List.range (n - 1)).map fun i => i + 1).length = n - 1 := by rw [List.length_map, List.length_range]
  refine tree_loop hxs (by omega) _ [] m (fun j hj => ?_) ⟨Nat.le_refl _, fun _ h => nomatch h⟩ (by rw [hks, List.length_nil]; omega) (by rw [hks]; omega) fun ds m1 hm1 hds => ?_
  · obtain ⟨i, hi, rfl⟩ := List.mem_map.mp hj
    have := List.mem_range.mp hi
    omega
  rw [hks] at hm1 hds
  obtain ⟨r, hr, e⟩ := more_ix hw h12
  refine ⟨_, e, ?_⟩
  have hds2 : PL n 11 ds := hds.mono (by rw [List.length_nil]; omega)
  refine (sp_app (sp_cons (sp_lift (a := PyData.int (n : Nat)) rfl) (sp_cons (sp_op2 (f := dAdd) (Φ := fun d => ∃ es, d = .list es ∧ PL n 47 es) (sp_lift (a := PyData.list ds) rfl) (sp_lst (sp_pairs (L := 36) h1 h12 ((sp_lift (range_items (n := r) (by omega))).mono (Nat.le_refl _) fun es he => by rw [he, ofN_len, List.length_range]; exact hr) (by decide))) fun x y hx hy => ?_) sp_nil)) (F := F2 m__law_web) (Φ := WebOk n) fun as has => ?_).use (by omega) fun d m2 hm2 hd => hq d m2 (by omega) hd
  · obtain ⟨es, rfl, hes⟩ := hy
    subst hx
    obtain ⟨e1, e2⟩ := hds2.add (o := some (.list es)) hes rfl (by decide)
    exact ⟨_, e1, _, rfl, e2⟩
  · obtain ⟨d, r2, rfl, rfl, d2, r3, rfl, ⟨es, rfl, hes⟩, rfl⟩ := has
    obtain ⟨ts, e1, e2⟩ := hes.web rfl (by decide) h1 h12
    exact ⟨_, e1, ts, rfl, e2⟩
theorem ring_pairs {ys : List Nat} (h0 : 0 < ys.length) (hl : ys.length ≤ 12) (hys : ∀ y ∈ ys, y < n) : ∃ ds, (lcO (C1 (fun x => dRange [x]) (C1 dLen (some (PyData.tuple (ofN ys))))) fun k24 => turnO (some true) ((consO (b2 dIx (some (PyData.tuple (ofN ys))) (b2 dSub (some k24) (some (PyData.int 1)))) (consO (b2 dIx (some (PyData.tuple (ofN ys))) (some k24)) (some []))).map PyData.tuple)) = some ds ∧ PL n ys.length ds := by
  refine PL.lc (xs := List.range ys.length) (by rw [len_tup, range_items (by omega)]) (by rw [List.length_range]; exact Nat.le_refl _) (by omega) fun k hk => ?_
  have hk := List.mem_range.mp hk
  obtain ⟨y, hy, e⟩ := ix_neg hk h0
  exact ⟨(y, ys[k]), pair_ok e (ix_tup hk), hys y hy, hys _ (List.getElem_mem _)⟩
theorem take_eval (xs : List Nat) (k : Nat) : slO (some (.tuple (ofN xs))) (some none) ((some (PyData.int (k : Nat))).bind asI) = some (.tuple (ofN (xs.take k))) := by
  rw [asI_int, slO_some]
  show some (PyData.tuple (cutD _ none (some (k : Int)))) = _
  rw [cutD_lo]
  unfold ofN
  rw [List.map_take]
theorem drop_eval (xs : List Nat) (k : Nat) (h : k ≤ xs.length) : slO (some (.tuple (ofN xs))) ((some (PyData.int (k : Nat))).bind asI) (some none) = some (.tuple (ofN (xs.drop k))) := by
  rw [asI_int, slO_some]
  show some (PyData.tuple (cutD _ (some (k : Int)) none)) = _
  unfold cutD
  rw [HT.sIx_none, HT.sIx_nat, ofN_len, Nat.min_eq_left h]
  unfold ofN
  rw [List.map_drop, List.take_of_length_le (by simp)]
theorem ring_ok (h4 : 4 < n) (h12 : n ≤ 12) (hxs : ∀ x ∈ xs, x < n) (hlen : xs.length = n) (hm : m + 100 ≤ 1000000000) (hq : ∀ d m', m' ≤ m + 100 → WebOk n d → q d m') : ringK q (.int (n : Nat)) (.tuple (ofN xs)) [] m := by
  unfold ringK
  have e4 : b2 dSub (some (PyData.int (n : Nat))) (some (PyData.int 4)) = some (.int ((n - 4 : Nat) : Int)) := sub_nat (a := n) (b := 4) (by omega)
  refine (sp_op2 (f := dAdd) (Φ := fun d => ∃ h : Nat, d = .int h ∧ 2 ≤ h ∧ h < n - 2) (sp_lift (a := PyData.int 2) rfl) (sp_draw (k := 0) (sp_lift e4) (by omega) (by omega)) fun x y hx hy => ?_).use (by omega) fun d m1 hm1 hd => ?_
  · obtain ⟨v, rfl, hv⟩ := hy
    subst hx
    exact ⟨_, add_nat 2 v, _, rfl, by omega, by omega⟩
  obtain ⟨h, rfl, hh1, hh2⟩ := hd
  have e1 : slO (some (PyData.tuple (ofN xs))) (some none) ((b2 dAdd (some (PyData.int (h : Nat))) (some (PyData.int 1))).bind asI) = some (.tuple (ofN (xs.take (h + 1)))) := by
    have e : b2 dAdd (some (PyData.int (h : Nat))) (some (PyData.int 1)) = some (.int ((h + 1 : Nat) : Int)) := add_nat h 1
    rw [e]
    exact take_eval xs (h + 1)
  refine ⟨_, by rw [e1, drop_eval xs h (by omega)]; rfl, ?_⟩
  refine ⟨_, rfl, ?_⟩
  have l1 : (xs.take (h + 1)).length = h + 1 := by rw [List.length_take]; omega
  have l2 : (xs.drop h).length = n - h := by rw [List.length_drop]; omega
  obtain ⟨d1, p1, p2⟩ := ring_pairs (n := n) (ys := xs.take (h + 1)) (by omega) (by omega) fun y hy => hxs y (List.mem_of_mem_take hy)
  obtain ⟨d2, p3, p4⟩ := ring_pairs (n := n) (ys := xs.drop h) (by omega) (by omega) fun y hy => hxs y (List.mem_of_mem_drop hy)
  obtain ⟨r1, r2⟩ := PL.add (n := n) (L := 0) (ds := []) ⟨Nat.le_refl _, fun _ h => nomatch h⟩ p2 (o := some (.list d1)) rfl (by omega)
  obtain ⟨r3, r4⟩ := r2.add p4 (o := some (.list d2)) rfl (by omega)
  refine ⟨_, by rw [p1]; exact r1, ?_⟩
  refine ⟨_, by rw [p3]; exact r3, ?_⟩
  obtain ⟨ts, e5, e6⟩ := r4.web rfl (by omega) (by omega) h12
  exact ⟨_, e5, hq _ _ (by omega) ⟨ts, rfl, e6⟩⟩
end
theorem sp_drawOrder {n : Nat} (h : n < 100000) : Sp n (drawM (consM (lift (some (PyData.int (n : Nat)))) nilM) (G1 m__law_draw_order)) (fun d => ∃ xs : List Nat, d = .tuple (ofN xs) ∧ xs.Perm (List.range n)) := fun q m hm hq => ⟨_, rfl, sp_order h q m hm hq⟩
theorem path_pairs {n a : Nat} {xs : List Nat} (ha : 1 ≤ a) (hn : n ≤ 12) (hlen : xs.length = n) (hxs : ∀ x ∈ xs, x < n) {o : Option (List D)} (ho : o = some (ofN ((List.range (n - a)).map fun i => i + a))) : ∃ ds, lcO o (fun k14 => turnO (some true) ((consO (b2 dIx (some (PyData.tuple (ofN xs))) (b2 dSub (some k14) (some (PyData.int 1)))) (consO (b2 dIx (some (PyData.tuple (ofN xs))) (some k14)) (some []))).map PyData.tuple)) = some ds ∧ PL n 12 ds := by
  refine PL.lc ho (by rw [List.length_map, List.length_range]; omega) (by omega) fun k hk => ?_
  obtain ⟨i, hi, rfl⟩ := List.mem_map.mp hk
  have hi := List.mem_range.mp hi
  obtain ⟨y, hy, e⟩ := ix_neg (xs := xs) (k := i + a) (by omega) (by omega)
  exact ⟨(y, xs[i + a]), pair_ok e (ix_tup (by omega)), hxs y hy, hxs _ (List.getElem_mem _)⟩
theorem star_pairs {n : Nat} {xs : List Nat} (hn : n ≤ 12) (h1 : 1 ≤ n) (hlen : xs.length = n) (hxs : ∀ x ∈ xs, x < n) : ∃ ds, lcO ((some (PyData.tuple (ofN xs))).bind dItems) (fun other15 => turnO (some true) ((consO (b2 dIx (some (PyData.tuple (ofN xs))) (some (PyData.int 0))) (consO (some other15) (some []))).map PyData.tuple)) = some ds ∧ PL n 12 ds := by
  refine PL.lc (xs := xs) rfl (by omega) (by omega) fun x hx => ?_
  have e : b2 dIx (some (PyData.tuple (ofN xs))) (some (PyData.int 0)) = some (.int ((xs[0]'(by omega) : Nat) : Int)) := ix_tup (xs := xs) (i := 0) (by omega)
  exact ⟨(xs[0]'(by omega), x), pair_ok e rfl, hxs _ (List.getElem_mem _), hxs x hx⟩
theorem two_ties {n a b : Nat} {oa ob : Option D} (ha : oa = some (.int (a : Nat))) (hb : ob = some (.int (b : Nat))) (h1 : a < n) (h2 : b < n) : ∃ ds, (consO ((consO oa (consO ob (some []))).map PyData.tuple) (some [])).map PyData.list = some (.list ds) ∧ PL n 1 ds := by
  refine ⟨[tieD (a, b)], ?_, Nat.le_refl _, fun d hd => ?_⟩
  · rw [pair_ok ha hb]; rfl
  · rw [List.mem_singleton.mp hd]
    exact ⟨(a, b), rfl, h1, h2⟩
theorem gt_nat (a b : Nat) : b2 dGt (some (PyData.int a)) (some (.int b)) = some (.bool (decide (b < a))) := by
  show some (PyData.bool (decide ((b : Int) < (a : Int)))) = _
  congr 2
  rw [Bool.eq_iff_iff]
  simp only [decide_eq_true_eq]
  omega
theorem one_or {n : Nat} : b2 dMul (some (PyData.int 1)) (C1 dInt (b2 dGt (some (PyData.int (n : Nat))) (some (PyData.int 1)))) = some (.int ((if 1 < n then 1 else 0 : Nat) : Int)) := by
  have e : b2 dGt (some (PyData.int (n : Nat))) (some (PyData.int 1)) = some (.bool (decide (1 < n))) := gt_nat n 1
  rw [e]
  by_cases h : 1 < n
  · rw [decide_eq_true h, if_pos h]
    exact mul_nat (a := 1) (b := 1) (by decide) (by decide)
  · rw [decide_eq_false h, if_neg h]
    exact mul_nat (a := 1) (b := 0) (by decide) (by decide)
theorem rep_list {ds : List D} {k : Nat} {o o2 : Option D} (ho : o = some (.list ds)) (ho2 : o2 = some (.int (k : Nat))) (hk : k < 1000) (hl : ds.length < 1000) : C2 dRepL o o2 = some (List.replicate k ds).flatten := by
  subst ho; subst ho2
  rw [c2_some]
  unfold dRepL
  simp only
  rw [if_pos]
  · rw [Int.toNat_natCast]
  · rw [decide_eq_true_eq, Int.toNat_natCast, sizeLine_eq]
    have : ds.length * k ≤ 1000 * 1000 := Nat.mul_le_mul (by omega) (by omega)
    omega
theorem last_pairs {n w : Nat} {xs : List Nat} (hw : w = 2 ∨ w = 3) (h1 : 1 ≤ n) (h12 : n ≤ 12) (hlen : xs.length = n) (hxs : ∀ x ∈ xs, x < n) : ∃ ds, (C2 dRepL ((consO ((consO (b2 dIx (some (PyData.tuple (ofN xs))) (some (PyData.int 0))) (consO (b2 dIx (some (PyData.tuple (ofN xs))) (b2 dSub (some (PyData.int (n : Nat))) (some (PyData.int 1)))) (some []))).map PyData.tuple) (some [])).map PyData.list) (b2 dSub (some (PyData.int (w : Nat))) (some (PyData.int 2)))).map PyData.list = some (.list ds) ∧ PL n 1 ds := by
  have e0 : b2 dIx (some (PyData.tuple (ofN xs))) (some (PyData.int 0)) = some (.int ((xs[0]'(by omega) : Nat) : Int)) := ix_tup (xs := xs) (i := 0) (by omega)
  have es : b2 dSub (some (PyData.int (n : Nat))) (some (PyData.int 1)) = some (.int ((n - 1 : Nat) : Int)) := sub_nat (a := n) (b := 1) (by omega)
  have e1 : b2 dIx (some (PyData.tuple (ofN xs))) (b2 dSub (some (PyData.int (n : Nat))) (some (PyData.int 1))) = some (.int ((xs[n - 1]'(by omega) : Nat) : Int)) := by
    rw [es]
    exact ix_tup (by omega)
  obtain ⟨ds, e2, hd⟩ := two_ties (n := n) e0 e1 (hxs _ (List.getElem_mem _)) (hxs _ (List.getElem_mem _))
  have ew : b2 dSub (some (PyData.int (w : Nat))) (some (PyData.int 2)) = some (.int ((w - 2 : Nat) : Int)) := sub_nat (a := w) (b := 2) (by omega)
  have hl := hd.1
  rw [rep_list e2 ew (by omega) (by omega)]
  refine ⟨_, rfl, ?_⟩
  rcases hw with rfl | rfl
  · exact ⟨Nat.zero_le _, fun _ h => nomatch h⟩
  · show PL n 1 (List.replicate 1 ds).flatten
    simp only [List.replicate_succ, List.replicate_zero, List.flatten_cons, List.flatten_nil, List.append_nil]
    exact hd
theorem ifK_t {o : Option Bool} {A B : Nat → Prop} {m : Nat} (h : o = some true) (hA : A m) : ifK (lift o) A B m := ⟨true, h, hA⟩
theorem ifK_f {o : Option Bool} {A B : Nat → Prop} {m : Nat} (h : o = some false) (hB : B m) : ifK (lift o) A B m := ⟨false, h, hB⟩
theorem sp_web {lo hi : Nat} (h1 : 1 ≤ lo) (h2 : lo ≤ hi) (h3 : hi ≤ 12) : Sp 200 (m__law_draw_web (.int lo) (.int hi)) (fun d => ∃ n ts, d = webD n ts ∧ Wb n ts ∧ lo ≤ n ∧ n ≤ hi) := fun q m hm hq => by
  unfold m__law_draw_web
  have e1 : b2 dAdd (b2 dSub (some (PyData.int (hi : Nat))) (some (.int (lo : Nat)))) (some (PyData.int 1)) = some (.int ((hi - lo + 1 : Nat) : Int)) := by
    rw [sub_nat h2]
    exact add_nat (hi - lo) 1
  refine (sp_op2 (f := dAdd) (Φ := fun d => ∃ n : Nat, d = .int n ∧ lo ≤ n ∧ n ≤ hi) (sp_lift (a := PyData.int (lo : Nat)) rfl) (sp_draw (k := 0) (sp_lift e1) (by omega) (by omega)) fun x y hx hy => ?_).useD (by omega) fun d m1 hm1 hd => ?_
  · obtain ⟨v, rfl, hv⟩ := hy
    subst hx
    exact ⟨_, add_nat lo v, _, rfl, by omega, by omega⟩
  obtain ⟨n, rfl, n1, n2⟩ := hd
  refine (sp_draw (k := 0) (n := 9) (sp_lift (a := PyData.int 9) rfl) (by decide) (by decide)).useD (by omega) fun d m2 hm2 hd => ?_
  obtain ⟨w, rfl, hw⟩ := hd
  refine (sp_drawOrder (n := n) (by omega)).useD (by omega) fun d m3 hm3 hd => ?_
  obtain ⟨xs, rfl, hp⟩ := hd
  have hlen : xs.length = n := by rw [hp.length_eq, List.length_range]
  have hxs : ∀ x ∈ xs, x < n := fun x hx => List.mem_range.mp (hp.mem_iff.mp hx)
  have fin : ∀ d m', m' ≤ m3 + 100 → WebOk n d → q d m' := fun d m' hm' ⟨ts, hd, W⟩ => hq d m' (by omega) ⟨n, ts, hd, W, n1, n2⟩
  refine ⟨[], rfl, ?_⟩
  dsimp only [nilCM, cel2M, onDM, onLM]
  by_cases w0 : w = 0
  · subst w0
    refine ifK_t rfl ?_
    refine (sp_lst (sp_pairs (n := n) (L := 12) (by omega) (by omega) (k2 := 1) (sp_app (F := dRange) (Φ := fun es => es.length ≤ 12) (sp_cons (sp_draw (k := 0) (n := n + 1) (sp_lift (by exact add_nat n 1)) (by omega) (by omega)) sp_nil) fun as has => ?_) (by decide))).use (by omega) fun d m4 hm4 hd => ?_
    · obtain ⟨d, r, rfl, ⟨v, rfl, hv⟩, rfl⟩ := has
      have : dRange [PyData.int (v : Nat)] = some _ := (c1_some (fun x => dRange [x]) _).symm.trans (range_items (n := v) (by omega))
      exact ⟨_, this, by rw [ofN_len, List.length_range]; omega⟩
    obtain ⟨es, rfl, hes⟩ := hd
    obtain ⟨ts, e5, e6⟩ := hes.web rfl (by decide) (by omega) (by omega)
    exact ⟨_, e5, fin _ _ (by omega) ⟨ts, rfl, e6⟩⟩
  have f0 : (b2 dEq (some (PyData.int (w : Nat))) (some (PyData.int 0))).bind asB = some false := by
    have := eq_nat w 0
    rw [decide_eq_false w0] at this
    exact congrArg (·.bind asB) this
  refine ifK_f f0 ?_
  have e23 : (b2 (dIn false) (some (PyData.int (w : Nat))) ((consO (some (PyData.int 2)) (consO (some (PyData.int 3)) (some []))).map PyData.list)).bind asB = some (decide (w ∈ [2, 3])) := congrArg (·.bind asB) (in_lst w [2, 3])
  by_cases w2 : w ∈ [2, 3]
  · rw [decide_eq_true w2] at e23
    have w23 : w = 2 ∨ w = 3 := by simpa using w2
    refine ifK_t e23 ?_
    have e4 : b2 dSub (some (PyData.int 4)) (some (PyData.int (w : Nat))) = some (.int ((4 - w : Nat) : Int)) := sub_nat (a := 4) (b := w) (by omega)
    obtain ⟨d1, p1, p2⟩ := path_pairs (n := n) (a := 4 - w) (xs := xs) (by omega) (by omega) hlen hxs (o := C2 (fun x y => dRange [x, y]) (b2 dSub (some (PyData.int 4)) (some (PyData.int (w : Nat)))) (some (PyData.int (n : Nat)))) (by rw [e4]; exact range2_items (by omega) (by omega))
    have e0 : b2 dIx (some (PyData.tuple (ofN xs))) (some (PyData.int 0)) = some (.int ((xs[0]'(by omega) : Nat) : Int)) := ix_tup (xs := xs) (i := 0) (by omega)
    have hif : (if 1 < n then 1 else 0) < xs.length := by split <;> omega
    obtain ⟨d2, p3, p4⟩ := two_ties (n := n) e0 (ob := b2 dIx (some (PyData.tuple (ofN xs))) (b2 dMul (some (PyData.int 1)) (C1 dInt (b2 dGt (some (PyData.int (n : Nat))) (some (PyData.int 1)))))) (by rw [one_or]; exact ix_tup hif) (hxs _ (List.getElem_mem _)) (hxs _ (List.getElem_mem _))
    obtain ⟨p5, p6⟩ := p2.add p4 p3 (by decide)
    refine ⟨_, by rw [p1]; exact p5, ?_⟩
    obtain ⟨d3, p7, p8⟩ := last_pairs (n := n) w23 (by omega) (by omega) hlen hxs
    obtain ⟨p9, p10⟩ := p6.add p8 p7 (by decide)
    obtain ⟨ts, e5, e6⟩ := p10.web p9 (by decide) (by omega) (by omega)
    exact ⟨_, e5, fin _ _ (by omega) ⟨ts, rfl, e6⟩⟩
  rw [decide_eq_false w2] at e23
  refine ifK_f e23 ?_
  by_cases w4 : w = 4
  · subst w4
    refine ifK_t rfl ?_
    obtain ⟨d1, p1, p2⟩ := star_pairs (n := n) (xs := xs) (by omega) (by omega) hlen hxs
    obtain ⟨ts, e5, e6⟩ := p2.web (o := some (.list d1)) rfl (by decide) (by omega) (by omega)
    exact ⟨_, by rw [p1]; exact e5, fin _ _ (by omega) ⟨ts, rfl, e6⟩⟩
  have f4 : (b2 dEq (some (PyData.int (w : Nat))) (some (PyData.int 4))).bind asB = some false := by
    have := eq_nat w 4
    rw [decide_eq_false w4] at this
    exact congrArg (·.bind asB) this
  refine ifK_f f4 ?_
  have f5 : (b2 dEq (some (PyData.int (w : Nat))) (some (PyData.int 5))).bind asB = some (decide (w = 5)) := congrArg (·.bind asB) (eq_nat w 5)
  have f6 : (b2 dGt (some (PyData.int (n : Nat))) (some (PyData.int 4))).bind asB = some (decide (4 < n)) := congrArg (·.bind asB) (gt_nat n 4)
  by_cases w5 : w = 5 ∧ 4 < n
  · refine ifK_t (by rw [f5, f6, andO_some, decide_eq_true w5.1, decide_eq_true w5.2]; rfl) ?_
    exact ring_ok (q := q) w5.2 (by omega) hxs hlen (by omega) fin
  · refine ifK_f ?_ ?_
    · rw [f5, f6, andO_some]
      congr 1
      rw [Bool.and_eq_false_iff]
      simp only [decide_eq_false_iff_not]
      omega
    · exact tree_ok (q := q) hw (by omega) (by omega) hxs hlen (by omega) fin
end Dl

set_option Elab.async false
set_option linter.all false
set_option autoImplicit false
set_option maxRecDepth 100000
set_option maxHeartbeats 2000000
namespace Dl
open PySem L2 PySem.Spec PyProof.Rows PySem.Calls
open AutoSeq1 (wpAny_loadPart')
/-! ### enumerate of a tuple -/
theorem meets_enumT (l : Addr) (us : Array Value) (c : Nat) (dc : Option Addr) (sl : Array (Option Value)) :
    Meets (Builtin.«enumerate.__new__» ⟨[.type "enumerate", .ref l], []⟩) (fun _ R s => s.heap.get? l = some { cls := .type "tuple", dict := dc, data := .seq us c, slots := sl } ∧
      R (.ok (.ret (.ref (s.heap.push { cls := .type "tuple_iterator", data := .fields #[.ref l, .int 0 0] }).objs.size)))
        { s with heap := (s.heap.push { cls := .type "tuple_iterator", data := .fields #[.ref l, .int 0 0] }).push { cls := .type "enumerate", data := .fields #[.none, .bool false, .ref s.heap.objs.size, rawInt 0, .none, .none] } }) :=
  .of_wp fun prog w A R s hyp => by
    obtain ⟨hp, g, d, tk, os⟩ := s
    obtain ⟨at_l, fin⟩ := hyp
    have is_sub := sub_enumerate
    have isT : Heap.IsTuple (Shared.heap ⟨hp, g, d, tk, os⟩) l us := ⟨_, at_l, rfl, c, rfl⟩
    wp_walk using wpAny_loadPart' at_l
    refine wpAny_stack_any fun _ => wpAny_pure ?_
    split
    · rename_i ty _ _ _ _ _
      cases (ty == Value.type "enumerate") <;> (wp_walk using wpAny_loadPart' at_l, wpAny_pyIter_tuple isT; exact ⟨_, rfl, fin⟩)
    · wp_walk using wpAny_loadPart' at_l, wpAny_pyIter_tuple isT
      exact ⟨_, rfl, fin⟩
section
variable {prog : Program} {w : World} {A : Around} {E : Value → Shared → Prop} {s : Shared}
theorem call_enumT {l : Addr} {us : Array Value} {Q : Value → Shared → Prop} (isT : s.heap.IsTuple l us)
    (fin : ∀ h', IsEnum h' (s.heap.objs.size + 1) s.heap.objs.size 0 .none → h'.IsTupleIter s.heap.objs.size l 0 → (∀ b o, s.heap.get? b = some o → h'.get? b = some o) → Q (.ref (s.heap.objs.size + 1)) { s with heap := h' }) :
    wpAny (model prog w) A (call (.type "enumerate") [.ref l]) Q E s := by
  obtain ⟨⟨ty, dc, dat, sl⟩, at_l, isty, c, isdat⟩ := isT
  obtain rfl : ty = .type "tuple" := isty
  obtain rfl : dat = .seq us c := isdat
  refine callType_new F.called_enumerate (by decide) (F.typeCall_enumerate_1 _) (F.newCall_enumerate_1 _) (fun o => F.args_object_init_2 o _) F.entry_enumerate_new (meets_enumT l us c dc sl) ⟨at_l, ?_⟩
  have sz : (s.heap.push { cls := .type "tuple_iterator", data := .fields #[.ref l, .int 0 0] }).objs.size = s.heap.objs.size + 1 := Heap.size_push ..
  refine (?_ : _ ∧ _)
  rw [sz]
  have en : IsEnum ((s.heap.push { cls := .type "tuple_iterator", data := .fields #[.ref l, .int 0 0] }).push { cls := .type "enumerate", data := .fields #[.none, .bool false, .ref s.heap.objs.size, rawInt 0, .none, .none] }) (s.heap.objs.size + 1) s.heap.objs.size 0 .none := by
    have q := Heap.get?_push_size (s.heap.push { cls := .type "tuple_iterator", data := .fields #[.ref l, .int 0 0] }) (o := { cls := .type "enumerate", data := .fields #[.none, .bool false, .ref s.heap.objs.size, rawInt 0, .none, .none] }) rfl
    rw [sz] at q
    exact q
  exact ⟨⟨_, en, rfl⟩, fin _ en ⟨_, Heap.get?_push_of_some _ (Heap.get?_push_size _ rfl), rfl, rfl⟩ fun b o e => Heap.get?_push_of_some _ (Heap.get?_push_of_some _ e)⟩
end
/-- the tuple at a, each item in a new pair -/
def IteT (K : PySem.W.Frag) (a : Addr) : It :=
  ⟨fun i H => ∃ (xs : List V) (x : V), SqT K H a xs ∧ xs[i]? = some x, fun i H v H' => ∃ T x, v = .ref T ∧ H T = none ∧ H' = upd H T (.tup [.int (i : Nat), x]) ∧ ∀ xs, SqT K H a xs → xs[i]? = some x, fun i H => ∃ xs : List V, SqT K H a xs ∧ xs.length = i⟩
theorem turn_enumT {P : Program} {w : World} {K : PySem.W.Frag} {elts : List Expr} {kk : Nat} {tpos : Pos} (a e it : Addr) :
    Turn P w K (.Tuple elts kk tpos) (IteT K a) [e, it] e (fun i h => (∃ old, IsEnum h e it ((i : Nat) : Int) old) ∧ h.IsTupleIter it a i ∧ e ≠ it ∧ a ≠ it ∧ a ≠ e) where
  mem := by simp
  obj := fun i h st b hb => by
    obtain ⟨⟨old, en⟩, ⟨o, ho, hc, hd⟩, _⟩ := st
    rcases (show b = e ∨ b = it by simpa using hb) with rfl | rfl
    · exact ⟨_, en, fun v q => nomatch q⟩
    · exact ⟨o, ho, fun v q => by rw [hd] at q; cases q⟩
  keep := fun i h h' st k => let ⟨⟨old, en⟩, ti, ne⟩ := st; ⟨⟨old, k e (by simp) _ en⟩, ti.at fun o q => k it (by simp) o q, ne⟩
  item := by
    intro X hP hw hK hc i pins s σ H E I hf st hg
    subst hP hw hK
    obtain ⟨⟨old, en⟩, ti, ne, ne2, ne3⟩ := st
    obtain ⟨xs, x, hq, hx⟩ := hg
    obtain ⟨us, rv, isT, _⟩ := I.tuple hq
    obtain ⟨u, hu, ru⟩ := rv.get hx
    have le := Heap.lt_size en
    have li : it < s.heap.objs.size := by obtain ⟨_, q, _⟩ := ti; exact Heap.lt_size q
    have isT' : s.heap.IsTuple a us.toArray := isT
    have hin : i < us.toArray.size := by
      have := (List.getElem?_eq_some_iff.mp hu).1
      simpa using this
    have nef : e ∉ [it, a] := by
      simp only [List.mem_cons, List.not_mem_nil, or_false, not_or]
      exact ⟨ne, Ne.symm ne3⟩
    refine wpAny_pyNext_enum_itemD (Draws.tuple (by simp [I.ok.hd hc]) it a ne2 us.toArray) en ⟨ti, isT'⟩ hin ne nef fun u2 h' tk hu2 out st2 hT hsz keep => ?_
    obtain rfl : u2 = u := by
      have e2 : us.toArray[i]? = some u := by simpa using hu
      rw [e2] at hu2
      cases hu2
      rfl
    refine ⟨_, rfl, wpAny_letOwnedTupleGo_enum (s := { s with heap := h', toks := tk + 1 }) out fun h'' en2 sb => ?_⟩
    have hT2 : h''.get? s.heap.objs.size = some { cls := .type "tuple", data := .seq #[.int i tk, u2] } := (sb.2 _ (Nat.ne_of_gt le)).trans hT
    have nw : ObjOk X.prog X.w (upd H s.heap.objs.size (.tup [.int (i : Nat), x])) h'' s.heap.objs.size (.tup [.int (i : Nat), x]) :=
      ⟨by show 2 ≤ sizeLine; decide, [.int i tk, u2], .cons ⟨_, rfl⟩ (.cons ru .nil), ⟨_, hT2, rfl, _, rfl⟩⟩
    have J : Inv X pins σ (upd H s.heap.objs.size (.tup [.int (i : Nat), x])) { s with heap := h'', toks := tk + 1 } :=
      I.turnedNew (ch := [e, it]) (fun b o hb q => (sb.2 b (fun z => hb (by simp [z]))).trans (keep b o (fun z => hb (by simp [z])) (fun z => hb (by simp [z])) q)) hf (Nat.le_refl _) nw
    refine ⟨.ref s.heap.objs.size, _, J, rfl, ⟨_, x, rfl, I.hok.fresh (Nat.le_refl _), rfl, fun ys hy => by rw [I.tuple_inj hy hq]; exact hx⟩, ⟨⟨u2, ?_⟩, st2.1.at fun o q => (sb.2 it (Ne.symm ne)).trans q, ne, ne2, ne3⟩, fun b hb => ?_⟩
    · rw [show ((i + 1 : Nat) : Int) = (i : Int) + 1 by omega]
      exact en2
    · have lb : b < s.heap.objs.size := by
        rcases (show b = e ∨ b = it by simpa using hb) with rfl | rfl
        · exact le
        · exact li
      rw [upd_ne (Nat.ne_of_lt lb)]
      exact (hf b hb).1
  done := by
    intro X hP hw hK hc i pins s σ H E I hf st hg
    subst hP hw hK
    obtain ⟨⟨old, en⟩, ti, ne, ne2, ne3⟩ := st
    obtain ⟨xs, hq, hx⟩ := hg
    obtain ⟨us, rv, isT, _⟩ := I.tuple hq
    obtain ⟨f0, f1, f2, f3, f4, f5⟩ := hf it (by simp)
    have hl : us.toArray.size = i := by
      have := rv.length
      rw [List.size_toArray]
      omega
    refine wpAny_pyNext_enum_endD (Draws.tuple (by simp [I.ok.hd hc]) it a ne2 us.toArray) en ⟨?_, (isT : s.heap.IsTuple a us.toArray)⟩ fun h' eb => ⟨rfl, I.turned (t' := s.toks) (fun b o hb q => eb b o hb q) f0 f1 f3 f4 f5⟩
    rw [hl]
    exact ti
  self := fun A i s Q E st h => let ⟨⟨_, en⟩, _⟩ := st; wpAny_pyIter_enum en h
def iEnumA (K : PySem.W.Frag) (ta : TA) : TI := fun σ H R => ta σ H fun vs H1 => ∃ a xs, vs = [V.ref a] ∧ ((SqL K H1 a xs ∧ R (Ite K a) H1) ∨ (SqT K H1 a xs ∧ R (IteT K a) H1))
theorem pi_enumA {X : Cx} {e : Expr} {ta : TA} {p pos tpos : Pos} {elts : List Expr} {kk : Nat} (hg : Gl X "enumerate") (hm : X.mg "enumerate" = none) (ha : PA X [e] ta) (hs : starEach [e] X.env = [(false, eval e X.env)] := by rfl) :
    PI X (.Tuple elts kk tpos) (.Call (.Name "enumerate" p) [e] [] pos) (iEnumA X.K ta) := by
  refine ⟨fun pins s σ H R I h => ?_⟩
  refine Call_ (ld_blt I hg hm boot_enumerate (callWith_type1 (thn (ha.run pos pins s σ H _ I h) fun us s1 ⟨vs, H1, I1, r1, q1⟩ => ?_) hs rfl))
  obtain ⟨a, xs, rfl, q⟩ := q1
  have e1 := Vals.ref1 r1
  subst e1
  have fresh : ∀ b, b ∈ [s1.heap.objs.size + 1, s1.heap.objs.size] → s1.heap.objs.size ≤ b := fun b hb => by
    rcases (show b = s1.heap.objs.size + 1 ∨ b = s1.heap.objs.size by simpa using hb) with rfl | rfl
    · exact Nat.le_succ _
    · exact Nat.le_refl _
  rcases q with ⟨hq, q⟩ | ⟨hq, q⟩
  · obtain ⟨its, rv, isL, _⟩ := I1.list hq
    refine call_enumerate_list isL.isList fun h' en ti _ keep => wpAny_pyIter_enum en ?_
    exact ⟨s1.heap.objs.size + 1, [s1.heap.objs.size + 1, s1.heap.objs.size], _, _, H1, rfl, I1.kept (t' := s1.toks) keep, turn_enum a _ _, ⟨⟨.none, en⟩, ti, Nat.succ_ne_self _⟩, fun b hb => I1.fpOk (fresh b hb) (I1.hok.fresh (fresh b hb)), q⟩
  · obtain ⟨its, rv, isT, _⟩ := I1.tuple hq
    have isT' : s1.heap.IsTuple a its.toArray := isT
    have la : a < s1.heap.objs.size := by obtain ⟨o, ho, _⟩ := isT'; exact Heap.lt_size ho
    refine call_enumT isT' fun h' en ti keep => wpAny_pyIter_enum en ?_
    exact ⟨s1.heap.objs.size + 1, [s1.heap.objs.size + 1, s1.heap.objs.size], _, _, H1, rfl, I1.kept (t' := s1.toks) keep, turn_enumT a _ _, ⟨⟨.none, en⟩, ti, Nat.succ_ne_self _, Nat.ne_of_lt la, Nat.ne_of_lt (Nat.lt_succ_of_lt la)⟩, fun b hb => I1.fpOk (fresh b hb) (I1.hok.fresh (fresh b hb)), q⟩
/-- enumerate of a list or a tuple -/
def dEnumA : D → Option (List D)
  | .list xs => some (enumD 0 xs)
  | .tuple xs => some (enumD 0 xs)
  | _ => none
theorem walk_eT {elts : List Expr} {kk : Nat} {tpos : Pos} {K : PySem.W.Frag} {G : Hp} {p : Addr} {vs : List V} {ds : List D} (hp : Tu G p vs) (r : RpL G vs ds) : IsWalk (.Tuple elts kk tpos) G (IteT K p) (enumD 0 ds) where
  go := fun i H s hi => by
    rw [enumD_len] at hi
    have h1 : i < vs.length := by rw [r.length]; omega
    exact ⟨vs, _, (hp.sqm s), List.getElem?_eq_getElem h1⟩
  stop := fun H s => ⟨vs, (hp.sqm s), by rw [enumD_len, r.length]⟩
  yld := fun i H x H' s hi y => by
    obtain ⟨T, x, rfl, hT, rfl, f1⟩ := y
    obtain ⟨d, hd, rd⟩ := r.getV (f1 _ ((hp.sqm s)))
    exact ⟨_, enumD_at hd, .inr ⟨⟨_, _, _, rfl⟩, T, _, _, rfl, hT, rfl, rfl, .cons (by rw [Nat.zero_add]; exact .int _) (.cons rd .nil)⟩⟩
section
variable {X : Cx} {R : Res} {ρ : List Cell} {a : Expr} {pos : Pos}
theorem ji_enumA {T : M D} {p tpos : Pos} {elts : List Expr} {kk : Nat} (hm : X.mg "enumerate" = none) (ha : JM X R ρ a T) (hg : Gl X "enumerate" := by rfl)
    (hs : starEach [a] X.env = [(false, eval a X.env)] := by rfl) : JI X R ρ (.Tuple elts kk tpos) (.Call (.Name "enumerate" p) [a] [] pos) (fun q => T fun d => lift (dEnumA d) q) := by
  refine PI.imp (pi_enumA hg hm (ja_cons ha ja_nil hs) hs) fun σ H Rr ⟨G, m, q, S, t, k⟩ => ⟨G, m, (fun ds m => match ds with | [d] => lift (dEnumA d) q m | _ => False), S, t, fun vs ds G1 H1 m1 S1 g1 r1 l1 q1 => ?_⟩
  cases r1 with
  | nil => cases l1
  | @cons v vs d ds r1 r2 =>
    cases r2 with
    | cons _ _ => cases l1
    | nil =>
      obtain ⟨es, hd, q1⟩ := q1
      cases r1 with
      | lst h1 ra =>
        cases hd
        exact ⟨_, _, rfl, .inl ⟨SqL.of (S1.gh _ _ h1), k _ _ G1 H1 m1 S1 g1 (walk_e h1 ra) q1⟩⟩
      | tup h1 ra =>
        cases hd
        exact ⟨_, _, rfl, .inr ⟨(h1.sqm S1.gh), k _ _ G1 H1 m1 S1 g1 (walk_eT h1 ra) q1⟩⟩
      | _ => cases hd
theorem jie_enumA {o : Option D} {p tpos : Pos} {elts : List Expr} {kk : Nat} (hm : X.mg "enumerate" = none) (ha : JE X R ρ a o) (hg : Gl X "enumerate" := by rfl)
    (hs : starEach [a] X.env = [(false, eval a X.env)] := by rfl) : JIE X R ρ (.Tuple elts kk tpos) (.Call (.Name "enumerate" p) [a] [] pos) (C1 dEnumA o) := (ji_enumA hm ha hg hs).imp fun _ _ => lift1
end
end Dl

set_option Elab.async false
set_option linter.all false
set_option autoImplicit false
set_option maxRecDepth 100000
set_option maxHeartbeats 1000000
namespace Dl
open PySem L2
/-! ### deals -/
def dealD (rs ss : List Nat) : D := .tuple [.tuple (ofN rs), .tuple (ofN ss)]
structure Deal (n : Nat) (rs ss : List Nat) : Prop where
  lo : 1 ≤ rs.length
  hi : rs.length ≤ n
  nd : rs.Nodup
  lt : ∀ r ∈ rs, r < n
  len : ss.length = rs.length
  pos : ∀ s ∈ ss, 1 ≤ s
  sum : ss.sum = n
theorem perm_take {n : Nat} {xs : List Nat} (hp : xs.Perm (List.range n)) (k : Nat) : (xs.take k).Nodup ∧ ∀ r ∈ xs.take k, r < n :=
  ⟨List.Sublist.nodup (List.take_sublist k xs) (hp.nodup_iff.mpr List.nodup_range), fun r hr => List.mem_range.mp (hp.mem_iff.mp (List.mem_of_mem_take hr))⟩
theorem sp_roots {n k : Nat} (hn : n < 100000) (hk : k ≤ n) : Sp n (m__law_draw_roots (.int n) (.int k)) (fun d => ∃ rs : List Nat, d = .tuple (ofN rs) ∧ rs.length = k ∧ rs.Nodup ∧ ∀ r ∈ rs, r < n) := fun q m hm hq => by
  unfold m__law_draw_roots
  refine (sp_drawOrder hn).use hm fun d m1 hm1 hd => ?_
  obtain ⟨xs, rfl, hp⟩ := hd
  have e := take_eval xs k
  rw [asI_int, slO_some] at e
  obtain ⟨h1, h2⟩ := perm_take hp k
  refine ⟨none, rfl, some (k : Int), rfl, _, e, hq _ m1 hm1 ⟨xs.take k, rfl, ?_, h1, h2⟩⟩
  have := hp.length_eq
  rw [List.length_range] at this
  rw [List.length_take]
  omega
theorem sum_set : ∀ (fs : List Nat) (i : Nat) (h : i < fs.length), (fs.set i (fs[i] + 1)).sum = fs.sum + 1
  | f :: fs, 0, _ => by simp; omega
  | f :: fs, i + 1, h => by
    have := sum_set fs i (by simpa using h)
    simp only [List.set_cons_succ, List.sum_cons, List.getElem_cons_succ]
    omega
theorem ofN_set (fs : List Nat) (i v : Nat) : (ofN fs).set i (.int v) = ofN (fs.set i v) := by
  unfold ofN
  rw [List.map_set]
theorem sizes_loop {k : Nat} (h0 : 0 < k) (hk : k < 1000) {q : List D → Nat → Prop} : ∀ (ds : List D) (fs : List Nat) (m : Nat), fs.length = k → (∀ s ∈ fs, 1 ≤ s) → m + ds.length ≤ 1000000000 → (∀ (gs : List Nat) m', m' ≤ m + ds.length → gs.length = k → (∀ s ∈ gs, 1 ≤ s) → gs.sum = fs.sum + ds.length → q (ofN gs) m') →
    forK (S := List D) (fun s4 turn8 kk5 => ((drawM (consM (lift (some (PyData.int (k : Nat)))) nilM) (G1 m__law_take)) fun i9 => (setIK s4 (lift (immO (b2 dAdd (b2 dIx (some (PyData.list s4)) (some i9)) (some (PyData.int 1))))) (lift (some i9)) fun found10 => (kk5 found10)))) ds (ofN fs) q m
  | [], fs, m, h1, h2, _, hq => hq fs m (Nat.le_refl _) h1 h2 rfl
  | d :: ds, fs, m, h1, h2, hm, hq => by
    rw [List.length_cons] at hm hq
    rw [forK_cons]
    refine (sp_draw (k := 0) (n := k) (sp_lift (a := PyData.int (k : Nat)) rfl) h0 (by omega)).use (by omega) fun d m1 hm1 hd => ?_
    obtain ⟨v, rfl, hv⟩ := hd
    have hv2 : v < fs.length := by omega
    have e : immO (b2 dAdd (b2 dIx (some (PyData.list (ofN fs))) (some (.int v))) (some (PyData.int 1))) = some (.int ((fs[v] + 1 : Nat) : Int)) := by
      rw [ix_lst hv2]
      rfl
    refine ⟨_, e, _, rfl, (v : Int), v, rfl, ixN_nat' (by rw [ofN_len]; exact hv2), ?_⟩
    rw [ofN_set]
    refine sizes_loop h0 hk ds _ m1 (by rw [List.length_set]; exact h1) (fun s hs => ?_) (by omega) fun gs m' hm' g1 g2 g3 => hq gs m' (by omega) g1 g2 ?_
    · rcases List.mem_or_eq_of_mem_set hs with hs | hs
      · exact h2 s hs
      · omega
    · rw [g3, sum_set fs v hv2]
      omega
theorem sum_rep (k : Nat) : (List.replicate k 1).sum = k := by
  induction k with
  | zero => rfl
  | succ k ih => rw [List.replicate_succ, List.sum_cons, ih]; omega
theorem flat_ones : ∀ k : Nat, (List.replicate k [PyData.int 1]).flatten = ofN (List.replicate k 1)
  | 0 => rfl
  | k + 1 => by rw [List.replicate_succ, List.flatten_cons, flat_ones k]; rfl
theorem sp_sizes {n k : Nat} (hn : n < 1000) (h0 : 0 < k) (hk : k ≤ n) : Sp n (m__law_draw_sizes (.int n) (.int k)) (fun d => ∃ ss : List Nat, d = .tuple (ofN ss) ∧ ss.length = k ∧ (∀ s ∈ ss, 1 ≤ s) ∧ ss.sum = n) := fun q m hm hq => by
  unfold m__law_draw_sizes
  have e1 : C2 dRepL ((consO (some (PyData.int 1)) (some [])).map PyData.list) (some (.int k)) = some (ofN (List.replicate k 1)) := by
    refine (rep_list (ds := [PyData.int 1]) (k := k) rfl rfl (by omega) (by decide)).trans (congrArg some ?_)
    exact flat_ones k
  refine ⟨_, e1, _, by rw [sub_nat hk]; exact range_items (by omega), ?_⟩
  refine sizes_loop h0 (by omega) _ _ m (by rw [List.length_replicate]) (fun s hs => by rw [(List.mem_replicate.mp hs).2]; exact Nat.le_refl _) (by rw [ofN_len, List.length_range]; omega) fun gs m' hm' g1 g2 g3 => ?_
  rw [ofN_len, List.length_range] at hm' g3
  refine ⟨_, rfl, hq _ m' (by omega) ⟨gs, rfl, g1, g2, ?_⟩⟩
  rw [g3, sum_rep]
  omega
theorem sp_deal {n most : Nat} {ts : List (Nat × Nat)} (h1 : 1 ≤ n) (h12 : n ≤ 12) (hm0 : 1 ≤ most) (hm1 : most ≤ 1000) : Sp 25 (m__law_draw_deal (webD n ts) (.int most)) (fun d => ∃ rs ss, d = dealD rs ss ∧ Deal n rs ss ∧ rs.length ≤ most) := fun q m hm hq => by
  unfold m__law_draw_deal
  refine (sp_op2 (f := dAdd) (Φ := fun d => ∃ k : Nat, d = .int k ∧ 1 ≤ k ∧ k ≤ min most n) (sp_lift (a := PyData.int 1) rfl) (sp_draw (k := 0) (n := min most n) (sp_lift (by rw [web0, min2_nat])) (by omega) (by omega)) fun x y hx hy => ?_).use (by omega) fun d m1 hm1 hd => ?_
  · obtain ⟨v, rfl, hv⟩ := hy
    subst hx
    exact ⟨_, add_nat 1 v, _, rfl, by omega, by omega⟩
  obtain ⟨k, rfl, k1, k2⟩ := hd
  have s1 : Sp n (drawM (consM (lift (b2 dIx (some (webD n ts)) (some (PyData.int 0)))) (consM (lift (some (PyData.int (k : Nat)))) nilM)) (G2 m__law_draw_roots)) (fun d => ∃ rs : List Nat, d = .tuple (ofN rs) ∧ rs.length = k ∧ rs.Nodup ∧ ∀ r ∈ rs, r < n) := fun q m hm hq => ⟨_, web0 n ts, _, rfl, sp_roots (by omega) (by omega) q m hm hq⟩
  have s2 : Sp n (drawM (consM (lift (b2 dIx (some (webD n ts)) (some (PyData.int 0)))) (consM (lift (some (PyData.int (k : Nat)))) nilM)) (G2 m__law_draw_sizes)) (fun d => ∃ ss : List Nat, d = .tuple (ofN ss) ∧ ss.length = k ∧ (∀ s ∈ ss, 1 ≤ s) ∧ ss.sum = n) := fun q m hm hq => ⟨_, web0 n ts, _, rfl, sp_sizes (by omega) (by omega) (by omega) q m hm hq⟩
  refine (sp_tup (sp_cons s1 (sp_cons s2 sp_nil))).use (by omega) fun d m2 hm2 hd => ?_
  obtain ⟨ds, rfl, a, r, rfl, ⟨rs, rfl, r1, r2, r3⟩, b, r', rfl, ⟨ss, rfl, z1, z2, z3⟩, rfl⟩ := hd
  exact hq _ m2 (by omega) ⟨rs, ss, rfl, ⟨by omega, by omega, r2, r3, by omega, z2, z3⟩, by omega⟩
theorem deal0 (rs ss : List Nat) : b2 dIx (some (dealD rs ss)) (some (PyData.int 0)) = some (.tuple (ofN rs)) := rfl
theorem deal1 (rs ss : List Nat) : b2 dIx (some (dealD rs ss)) (some (PyData.int 1)) = some (.tuple (ofN ss)) := rfl
/-! ### repr of small data gives a text -/
mutual
def nice : D → Bool
  | .none => true
  | .bool _ => true
  | .int i => decide (i.natAbs < 10 ^ 60)
  | .str y => decide (y.cps.size ≤ 100) && y.cps.toList.all fun c => decide (c < 16 ^ 8)
  | .list ds => niceL ds
  | .tuple ds => niceL ds
  | .dict kvs => kvs.isEmpty
def niceL : List D → Bool
  | [] => true
  | d :: ds => nice d && niceL ds
end
mutual
def cnt : D → Nat
  | .list ds => 1 + cntL ds
  | .tuple ds => 1 + cntL ds
  | _ => 1
def cntL : List D → Nat
  | [] => 0
  | d :: ds => cnt d + cntL ds
end
theorem log_small {n : Nat} (h : n < 10 ^ 60) : n.log2 < 200 := by
  by_cases z : n = 0
  · subst z; decide
  · exact (Nat.log2_lt z).mpr (Nat.lt_trans h (by decide))
mutual
theorem nice_all : ∀ d : D, nice d = true → PyData.leavesShort 61 d = true ∧ PyData.weight d + 1 ≤ 211 * cnt d ∧ PyData.showable d = true
  | .none, _ => ⟨rfl, by simp [PyData.weight, cnt], rfl⟩
  | .bool _, _ => ⟨rfl, by simp [PyData.weight, cnt], rfl⟩
  | .int i, h => by
    have hn : i.natAbs < 10 ^ 60 := of_decide_eq_true h
    have hl := log_small hn
    have ht : (PyData.shown (.int i)).length ≤ 61 := by
      show (Str.ofString (toString i)).length ≤ 61
      rw [ofString_length]
      exact int_text_length_le10 (k := 60) (by decide) hn
    refine ⟨by simpa [PyData.leavesShort] using ht, ?_, ?_⟩
    · simp only [PyData.weight, cnt]
      split <;> omega
    · simp only [PyData.showable, decide_eq_true_eq]
      omega
  | .str y, h => by
    simp only [nice, Bool.and_eq_true, decide_eq_true_eq] at h
    exact ⟨by simpa [PyData.leavesShort] using h.2, by simp only [PyData.weight, cnt]; omega, rfl⟩
  | .list ds, h => by
    obtain ⟨h1, h2, h3⟩ := niceL_all ds h
    exact ⟨by simpa [PyData.leavesShort] using h1, by simp only [PyData.weight, cnt]; omega, by simpa [PyData.showable] using h3⟩
  | .tuple ds, h => by
    obtain ⟨h1, h2, h3⟩ := niceL_all ds h
    exact ⟨by simpa [PyData.leavesShort] using h1, by simp only [PyData.weight, cnt]; omega, by simpa [PyData.showable] using h3⟩
  | .dict [], _ => ⟨rfl, by simp [PyData.weight, PyData.weightKv, cnt], rfl⟩
theorem niceL_all : ∀ ds : List D, niceL ds = true → PyData.leavesShortAll 61 ds = true ∧ PyData.weightAll ds ≤ 211 * cntL ds ∧ PyData.showableAll ds = true
  | [], _ => ⟨rfl, by simp [PyData.weightAll], rfl⟩
  | d :: ds, h => by
    simp only [niceL, Bool.and_eq_true] at h
    obtain ⟨a1, a2, a3⟩ := nice_all d h.1
    obtain ⟨b1, b2, b3⟩ := niceL_all ds h.2
    have hc : 1 ≤ cnt d := by cases d <;> simp [cnt]
    refine ⟨by simp [PyData.leavesShortAll, a1, b1], ?_, by simp [PyData.showableAll, a3, b3]⟩
    simp only [PyData.weightAll, cntL]
    omega
end
theorem repr_ok {d : D} (hn : nice d = true) (hc : cnt d ≤ 1000) (hd : d.depth ≤ 60) : ∃ T : Str, C1 dRepr (some d) = some (.str T) := by
  obtain ⟨a1, a2, a3⟩ := nice_all d hn
  have hl := PyData.shown_le 61 (by decide) d a1
  have hz : d.shown.length ≤ sizeLine := by rw [sizeLine_eq]; omega
  refine ⟨d.shown, ?_⟩
  rw [c1_some]
  unfold dRepr
  rw [if_pos]
  rw [a3, decide_eq_true hd, decide_eq_true hz]
  rfl
theorem niceL_map {α : Type} {g : α → D} : ∀ xs : List α, (∀ x ∈ xs, nice (g x) = true) → niceL (xs.map g) = true
  | [], _ => rfl
  | x :: xs, h => by
    simp only [List.map_cons, niceL, Bool.and_eq_true]
    exact ⟨h x List.mem_cons_self, niceL_map xs fun y hy => h y (List.mem_cons_of_mem _ hy)⟩
theorem cntL_map {α : Type} {g : α → D} {c : Nat} : ∀ xs : List α, (∀ x ∈ xs, cnt (g x) ≤ c) → cntL (xs.map g) ≤ xs.length * c
  | [], _ => by simp [cntL]
  | x :: xs, h => by
    have h1 := h x List.mem_cons_self
    have h2 := cntL_map xs fun y hy => h y (List.mem_cons_of_mem _ hy)
    simp only [List.map_cons, cntL, List.length_cons]
    have : (xs.length + 1) * c = xs.length * c + c := by rw [Nat.add_mul, Nat.one_mul]
    omega
theorem depthAll_map {α : Type} {g : α → D} {c : Nat} : ∀ xs : List α, (∀ x ∈ xs, (g x).depth ≤ c) → PyData.depthAll (xs.map g) ≤ c
  | [], _ => by simp [PyData.depthAll]
  | x :: xs, h => by
    have h1 := h x List.mem_cons_self
    have h2 := depthAll_map xs fun y hy => h y (List.mem_cons_of_mem _ hy)
    simp only [List.map_cons, PyData.depthAll]
    omega
theorem big60 : (1000000 : Nat) < 10 ^ 60 := by decide
theorem nice_nat {a : Nat} (h : a < 1000000) : nice (.int (a : Nat)) = true := by
  simp only [nice, decide_eq_true_eq, Int.natAbs_natCast]
  exact Nat.lt_trans h big60
theorem nice_places {xs : List Nat} (h : ∀ x ∈ xs, x < 1000000) : niceL (ofN xs) = true ∧ cntL (ofN xs) ≤ xs.length ∧ PyData.depthAll (ofN xs) ≤ 0 :=
  ⟨niceL_map xs fun x hx => nice_nat (h x hx), by
    have := cntL_map (g := fun (i : Nat) => PyData.int i) (c := 1) xs fun x _ => by simp [cnt]
    rw [Nat.mul_one] at this
    exact this, depthAll_map xs fun x _ => by simp [PyData.depth]⟩
theorem nice_web {n : Nat} {ts : List (Nat × Nat)} (W : Wb n ts) : nice (webD n ts) = true ∧ cnt (webD n ts) ≤ 400 ∧ (webD n ts).depth ≤ 3 := by
  have hi := W.hi
  have h1 : niceL (ts.map tieD) = true := niceL_map ts fun t ht => by
    have := W.ord t ht
    have e1 := nice_nat (a := t.1) (by omega)
    have e2 := nice_nat (a := t.2) (by omega)
    simp [tieD, nice, niceL] at *
    exact ⟨e1, e2⟩
  have h2 := cntL_map (g := tieD) (c := 3) ts fun t _ => by simp [tieD, cnt, cntL]
  have h3 := depthAll_map (g := tieD) (c := 1) ts fun t _ => by simp [tieD, PyData.depth, PyData.depthAll]
  have hf := W.few
  have e := nice_nat (a := n) (by omega)
  refine ⟨?_, ?_, ?_⟩
  · show (nice (.int (n : Nat)) && (nice (.tuple (ts.map tieD)) && true)) = true
    rw [e]
    show (true && (niceL (ts.map tieD) && true)) = true
    rw [h1]
    rfl
  · simp only [webD, cnt, cntL]
    omega
  · simp only [webD, PyData.depth, PyData.depthAll]
    omega
theorem web_repr {n : Nat} {ts : List (Nat × Nat)} (W : Wb n ts) : ∃ T : Str, C1 dRepr (some (webD n ts)) = some (.str T) := by
  obtain ⟨h1, h2, h3⟩ := nice_web W
  exact repr_ok h1 (by omega) (by omega)
theorem sum_ge : ∀ (ss : List Nat) (s : Nat), s ∈ ss → s ≤ ss.sum
  | x :: ss, s, h => by
    rcases List.mem_cons.mp h with rfl | h
    · simp
    · have := sum_ge ss s h
      simp only [List.sum_cons]
      omega
theorem nice_deal {n : Nat} {rs ss : List Nat} (h : Deal n rs ss) (hn : n ≤ 12) : nice (dealD rs ss) = true ∧ cnt (dealD rs ss) ≤ 40 ∧ (dealD rs ss).depth ≤ 3 := by
  obtain ⟨a1, a2, a3⟩ := nice_places (xs := rs) fun r hr => by have := h.lt r hr; omega
  obtain ⟨b1, b2', b3⟩ := nice_places (xs := ss) fun s hs => by have := sum_ge ss s hs; have := h.sum; omega
  have l1 := h.hi
  have l2 := h.len
  refine ⟨by simp [dealD, nice, niceL, a1, b1], ?_, ?_⟩
  · simp only [dealD, cnt, cntL]
    omega
  · simp only [dealD, PyData.depth, PyData.depthAll]
    omega
theorem eq_text (T : Str) : (b2 dNe (some (PyData.str T)) (some (.str T))).bind asB = some false := by
  rw [b2_some]
  unfold dNe
  rw [if_pos (by simp [eqOk, PyData.plain, PyData.depth])]
  simp [PyData.eqv, asB]
theorem not_true {o : Option D} (h : o = some (.bool true)) : (o.bind asT).map (!·) = some false := by rw [h]; rfl
end Dl

set_option Elab.async false
set_option linter.all false
set_option autoImplicit false
set_option maxRecDepth 100000
set_option maxHeartbeats 4000000
namespace Dl
open PySem L2 PySem.Spec PyProof.Rows
/-! ### dicts of keys that are tuples of ints, each with the worth True, and where the keys stand -/
def keyI (l : List Int) : List Key := l.map Sum.inl
theorem keyI_inj (ls : List Int) (ms : List Int) (h : keyI ls = keyI ms) : ls = ms := by
  induction ls generalizing ms with
  | nil => cases ms with
    | nil => rfl
    | cons _ _ => cases h
  | cons a ls ih => cases ms with
    | nil => cases h
    | cons b ms =>
      simp only [keyI, List.map_cons, List.cons.injEq, Sum.inl.injEq] at h
      rw [h.1, ih ms h.2]
theorem keyI_v (l : List Int) : (keyI l).map kV = l.map V.int := by unfold keyI; rw [List.map_map]; rfl
def entK (L : List (Addr × List Int)) : List (List Key × Addr × Value) := L.map fun q => (keyI q.2, q.1, Value.bool true)
structure DictT0 (P : Program) (w : World) (h : Heap) (a : Addr) (L : List (Addr × List Int)) : Prop where
  few : L.length ≤ sizeLine
  lo : (a == sysModules) = false
  ob : ∃ o es ep, h.get? a = some o ∧ o.ExactDict ∧ o.data = .dict es ep ∧ es.toList = (entK L).map (entryOfKey (tupleKind (mixKind P w)))
  nd : (L.map (·.2)).Nodup
def DictTO (P : Program) (w : World) (a : Addr) (L : List (Addr × List Int)) : HO := .ext fun h => DictT0 P w h a L
theorem dictTO_new {P : Program} {w : World} {H : Hp} {h : Heap} {a : Addr} {L : List (Addr × List Int)} (R : DictT0 P w h a L) : ObjOk P w H h a (DictTO P w a L) := by
  obtain ⟨o, es, ep, ho, r⟩ := R.ob
  exact ⟨R, ⟨o, ho⟩, fun h1 h2 p k => ⟨p.few, p.lo, let ⟨o', es', ep', ho', r'⟩ := p.ob; ⟨o', es', ep', k o' ho', r'⟩, p.nd⟩⟩
theorem dictT0_empty (P : Program) (w : World) (h : Heap) (hb : sysModules < h.objs.size) : DictT0 P w (h.push { cls := .type "dict", data := .dict #[] }) h.objs.size [] :=
  ⟨Nat.zero_le _, beq_eq_false_iff_ne.mpr (Ne.symm (Nat.ne_of_lt hb)), ⟨_, #[], 0, Heap.get?_push_size _ rfl, ⟨rfl, rfl, rfl⟩, rfl, rfl⟩, List.nodup_nil⟩
/-- what D[y] = z by a comprehension leaves -/
def PutOk (P : Program) (w : World) (A : Around) (D : Addr) (y z : V) (H H' : Hp) : Prop := ∀ (X : Cx), X.prog = P → X.w = w → X.A = A → ∀ (pins : List (Addr × Obj)) (σ : L2.St) (s : Shared) (E : Value → Shared → Prop) (u r : Value) (Q : Unit → Shared → Prop),
  L2.Inv X pins σ H s → RelV y u → RelV z r → (∀ t, L2.Inv X pins σ H' t → Q () t) → wpAny (model P w) A (dictSet D u r) Q E s
theorem put_int {P : Program} {w : World} {A : Around} {H : Hp} {D : Addr} {kvs : List (Key × V)} {n : Int} {z : V} (hD : H D = some (.dK kvs)) (hl : kvs.length < sizeLine) : PutOk P w A D (.int n) z H (upd H D (.dK (putK kvs (.inl n) z))) := by
  rintro X rfl rfl rfl pins σ s E u r Q I ry rz fin
  exact d_dictSet (k := .inl n) I hD hl ry rz fin
def insT (L : List (Addr × List Int)) (b : Addr) (k : List Int) : List (Addr × List Int) := if k ∈ L.map (·.2) then L else L ++ [(b, k)]
theorem ent_keys (L : List (Addr × List Int)) : (entK L).map (·.1) = (L.map (·.2)).map keyI := by
  unfold entK
  rw [List.map_map, List.map_map]
  rfl
theorem at_ent : ∀ (L : List (Addr × List Int)) (k : List Int), (atKey (entK L) (keyI k)).isSome = decide (k ∈ L.map (·.2))
  | [], k => rfl
  | q :: L, k => by
    have ih := at_ent L k
    unfold entK atKey at *
    simp only [List.map_cons, List.find?_cons, List.mem_cons]
    by_cases e : keyI q.2 = keyI k
    · have e2 := keyI_inj _ _ e
      simp [e, e2]
    · have e2 : ¬ k = q.2 := fun z => e (by rw [z])
      simp only [e, decide_false, e2, false_or]
      exact ih
theorem stored_ent (L : List (Addr × List Int)) (b : Addr) (k : List Int) : storedH (entK L) (keyI k) b (.bool true) = entK (insT L b k) := by
  unfold storedH insT
  rw [at_ent]
  by_cases h : k ∈ L.map (·.2)
  · rw [decide_eq_true h, if_pos rfl, if_pos h]
    unfold entK
    rw [List.map_map]
    refine List.map_congr_left fun q _ => ?_
    simp only [Function.comp, putAt]
    split <;> rfl
  · rw [decide_eq_false h, if_neg Bool.false_ne_true, if_neg h]
    unfold entK
    rw [List.map_append]
    rfl
theorem insT_len (L : List (Addr × List Int)) (b : Addr) (k : List Int) : (insT L b k).length ≤ L.length + 1 := by
  unfold insT
  split
  · omega
  · simp
theorem put_tup {P : Program} {w : World} {A : Around} {H : Hp} {D b : Addr} {L : List (Addr × List Int)} {k : List Int} (hu : A.units + 64 < cLine) (hD : H D = some (DictTO P w D L)) (hl : L.length < sizeLine) (hL : ∀ q ∈ L, Tu H q.1 (q.2.map V.int)) (hb : Tu H b (k.map V.int)) :
    PutOk P w A D (.ref b) (.bl true) H (upd H D (DictTO P w D (insT L b k))) := by
  rintro X rfl rfl rfl pins σ s E u r Q I ry rz fin
  cases (show u = Value.ref b from ry)
  cases (show r = Value.bool true from rz)
  obtain ⟨few, lo, ⟨o, es, ep, ho, hx, hd, he⟩, nd⟩ := (I.hok D _ hD).1
  have kb : (tupleKind (mixKind X.prog X.w)).is s.heap (keyI k) b := Tu.key (by rw [keyI_v]; exact hb) I.hok
  have hn : ((entK L).map (·.1)).Nodup := by
    rw [ent_keys]
    exact List.pairwise_map.mpr (nd.imp fun {a b} ne e => ne (keyI_inj _ _ e))
  have all : ∀ x ∈ entK L, (tupleKind (mixKind X.prog X.w)).is s.heap x.1 x.2.1 := fun x hx => by
    obtain ⟨q, hq, rfl⟩ := List.mem_map.mp hx
    exact Tu.key (by rw [keyI_v]; exact hL q hq) I.hok
  have hz : (entK L).length ≤ sizeLine := by unfold entK; rw [List.length_map]; omega
  refine wpAny_dictSet_heap (hsz := hz) (show X.A.units < cLine by omega) kb ⟨o, es, ep, ho, hx, hd, he, all, hn⟩ fun h' dd' sb => fin _ ?_
  obtain ⟨o', es', ep', ho', hx', hd', he', _, hn'⟩ := dd'
  rw [stored_ent] at he' hn'
  refine d_write I (by rw [hD]; exact True.intro) sb ⟨o', ho'⟩ (dictTO_new ⟨by have := insT_len L b k; omega, lo, ⟨o', es', ep', ho', hx', hd', he'⟩, ?_⟩)
  rw [ent_keys] at hn'
  exact List.Pairwise.of_map keyI (fun a b ne e => ne (by rw [e])) hn'
end Dl
namespace Dl
open PySem L2 PySem.Spec PyProof.Rows
section
variable {X : Cx}
def tDcA (P : Program) (w : World) (A : Around) (wi : TI) (g : TG) (tt : TT) (tk tv : TE) (vs : List Nat) : TE := fun σ H Q => wi σ H fun J H1 => ∀ D, H1 D = none → ∃ O0 : HO, (∀ (H : Hp) (h : Heap), sysModules < h.objs.size → h.objs.size = D → ObjOk P w H (h.push { cls := .type "dict", data := .dict #[] }) h.objs.size O0) ∧ ∃ W : Nat → Nat → Hp → Prop, (∃ m, W 0 m (upd H1 D O0)) ∧ ∀ i m H, W i m H →
  (J.stop i H ∧ Q (.ref D) H) ∨ (J.go i H ∧ ∃ Nx : Hp → Prop, (∀ K, Nx K → ∃ j, j < m ∧ W (i + 1) j K) ∧ ∀ x K, J.yld i H x K → g x (wipe σ vs) K fun σ2 H2 => wipe σ2 vs = wipe σ vs ∧ tt σ2 H2 fun b H3 =>
    if b = true then tk σ2 H3 fun y H4 => tv σ2 H4 fun z H5 => ∃ H6, PutOk P w A D y z H5 H6 ∧ Nx H6 else Nx H3)
theorem pe_dcA {kx vx tg iter : Expr} {ifs : List Expr} {scope : Scope} {own : List (Str × Nat)} {pos : Pos} {wi : TI} {g : TG} {tt : TT} {tk tv : TE} (hc : X.calm = true) (hu : X.A.units + 64 < cLine) (hN : X.N.Nodup) (hi : PI X tg iter wi) (ok : BlkOk X.N X.env.scope scope own)
    (hg : ∀ (s : Shared) (H : Hp) (C : Addr) (cl : List (Str × Addr)) (fp : List Addr), PG (X.blk s H scope (compEnvC scope cl C X.env) fp) tg g) (ht : ∀ (s : Shared) (H : Hp) (C : Addr) (cl : List (Str × Addr)) (fp : List Addr), PTs (X.blk s H scope (compEnvC scope cl C X.env) fp) ifs tt)
    (hk : ∀ (s : Shared) (H : Hp) (C : Addr) (cl : List (Str × Addr)) (fp : List Addr), PE (X.blk s H scope (compEnvC scope cl C X.env) fp) kx tk)
    (hv : ∀ (s : Shared) (H : Hp) (C : Addr) (cl : List (Str × Addr)) (fp : List Addr), PE (X.blk s H scope (compEnvC scope cl C X.env) fp) vx tv) (hs : ∀ x, foldedSetIterable iter X.env x = pure x := by intro _; rfl) :
    PE X (.DictComp kx vx [⟨tg, iter, ifs, 0⟩] scope pos) (tDcA X.prog X.w X.A wi g tt tk tv (own.map (·.2))) := ⟨fun pins s σ H Q I hyp => by
  have seen : ∀ y ∈ scope.names, y.2 = .free → ∃ c, X.env.cells.lookup y.1 = some c := fun y hy e => (ok.free y hy e).elim (fun q => I.ok.has _ (.inl q)) fun q => I.ok.has _ (.inr q)
  rw [arm_eval_DictComp]
  refine wpAny_comprehension_free (use := none) rfl hs (closure_ok seen) ok.kind (fun y hy e => by rw [ok.uniq y hy, e]) (thn (hi.run pins s σ H _ I hyp) fun _ s1 hx => thn hx fun _ s2 ⟨it, fp, stA, J, H2, e2, I2, T, st2, far, rest⟩ => ?_)
  subst e2
  refine wpAny_newObj_type (newEnv_comp ?_)
  -- the new dict at D
  generalize eD : s2.heap.objs.size = D
  have free : H2 D = none := I2.hok.fresh (Nat.le_of_eq eD)
  obtain ⟨O0, kind, W, ⟨m0, start⟩, turn⟩ := rest D free
  generalize e3 : ({ s2 with heap := s2.heap.push { cls := .type "dict", data := .dict #[] } } : Shared) = s3
  have heap3 : s3.heap = s2.heap.push { cls := .type "dict", data := .dict #[] } := by rw [← e3]
  have I3 : Inv X pins σ (upd H2 D O0) s3 := by
    rw [← e3]
    refine I2.laid (t' := s2.toks) (fun _ _ q => Heap.get?_push_of_some _ q) (Nat.le_of_eq eD) ?_
    have q := kind (upd H2 D O0) s2.heap I2.big eD
    rw [← eD] at q ⊢
    exact q
  have low : ∀ b ∈ fp, b < s2.heap.objs.size := fun b hb => let ⟨_, q, _⟩ := T.obj _ _ st2 b hb; Heap.lt_size q
  have far3 : ∀ b ∈ fp, FpOk X pins (upd H2 D O0) b ∧ b < s3.heap.objs.size := fun b hb =>
    ⟨⟨by rw [upd_ne (by rw [← eD]; exact Nat.ne_of_lt (low b hb))]; exact (far b hb).1, (far b hb).2⟩, by rw [heap3, Heap.size_push]; exact Nat.lt_succ_of_lt (low b hb)⟩
  have st3 : stA 0 s3.heap := T.keep _ _ _ st2 fun _ _ _ q => by rw [heap3]; exact Heap.get?_push_of_some _ q
  -- the block's own context
  have I4 := block_start I3 ok hN far3
  have gg := hg s3 (upd H2 D O0) s3.heap.objs.size (cellsFrom (s3.heap.objs.size + 1) scope.names (cloFrom X.env.cells scope.names [])) fp
  have gt := ht s3 (upd H2 D O0) s3.heap.objs.size (cellsFrom (s3.heap.objs.size + 1) scope.names (cloFrom X.env.cells scope.names [])) fp
  have gk := hk s3 (upd H2 D O0) s3.heap.objs.size (cellsFrom (s3.heap.objs.size + 1) scope.names (cloFrom X.env.cells scope.names [])) fp
  have gv := hv s3 (upd H2 D O0) s3.heap.objs.size (cellsFrom (s3.heap.objs.size + 1) scope.names (cloFrom X.env.cells scope.names [])) fp
  refine (?_ : codeAny _ _ (.compStart (.DictComp kx vx [⟨tg, iter, ifs, 0⟩] scope pos) 0 (.ref it) (.ref D) (compEnvC scope (cellsFrom (s3.heap.objs.size + 1) scope.names (cloFrom X.env.cells scope.names [])) s3.heap.objs.size X.env)) (compPost (model X.prog X.w) X.A X.xe none (fun u z => ∃ x K, Inv X pins σ K z ∧ RelV x u ∧ Q x K) (.ref D) s3.heap.objs.size) { s3 with heap := pushCells (s3.heap.push { cls := .type "dict", data := .dict #[] }) scope.names })
  have nofp : ∀ b ∈ fp, (upd H2 D O0) b = none := fun b hb => (far3 b hb).1.1
  generalize ec : compEnvC scope (cellsFrom (s3.heap.objs.size + 1) scope.names (cloFrom X.env.cells scope.names [])) s3.heap.objs.size X.env = ce at I4 gg gt gk gv ⊢
  have loc : ce.locals = s3.heap.objs.size := by rw [← ec]; rfl
  generalize eH : upd H2 D O0 = H3 at I3 I4 gg gt gk gv start nofp far3
  generalize e4 : ({ s3 with heap := pushCells (s3.heap.push { cls := .type "dict", data := .dict #[] }) scope.names } : Shared) = s4 at I4 ⊢
  have st4 : stA 0 s4.heap := T.keep _ _ _ st3 fun _ _ _ q => by rw [← e4]; exact pushCells_keeps _ _ _ _ (Heap.get?_push_of_some _ q)
  have held : ∀ {σ' : L2.St} {K : Hp} {z : Shared}, Inv (X.blk s3 H3 scope ce fp) [] σ' K z → (∀ b ∈ fp, K b = none) → ∀ b ∈ fp, FpOk (X.blk s3 H3 scope ce fp) [] K b := fun I' n b hb =>
    ⟨n b hb, (I'.ok.exf b hb).1, I'.ok.exfs b hb, .inl hb, fun x c q => (I'.ok.exf b hb).2 x c q, fun p hp => absurd (show p ∈ ([] : List (Addr × Obj)) ++ [] from hp) (by simp)⟩
  have loop : codeAny (model X.prog X.w) X.A (.compLoop (.DictComp kx vx [⟨tg, iter, ifs, 0⟩] scope pos) 0 (.ref it) (.ref D) ce) (compPost (model X.prog X.w) X.A X.xe none (fun u z => ∃ x K, Inv X pins σ K z ∧ RelV x u ∧ Q x K) (.ref D) s3.heap.objs.size) s4 := by
    refine compLoop_anyD (fun n z => ∃ i K, Inv (X.blk s3 H3 scope ce fp) [] (wipe σ (own.map (·.2))) K z ∧ stA i z.heap ∧ (∀ b ∈ fp, K b = none) ∧ W i n K) (fun n s5 => ?_) m0 ⟨0, H3, I4, st4, nofp, start⟩
    rintro ⟨i, H5, I5, st5, n5, w5⟩
    rcases turn i n H5 w5 with ⟨halt, fin⟩ | ⟨go, Nx, nxt, body⟩
    · refine thnF (T.done (X.blk s3 H3 scope ce fp) rfl rfl rfl hc i [] s5 _ H5 (fun _ _ => False) I5 (held I5 n5) st5 halt) fun r s6 ⟨er, I6⟩ => ?_
      subst er
      have out : Inv X pins σ H5 s6 := I3.call' (ch := fp) I6.os I6.base I6.hok I6.bare fun b hb => ⟨(far3 b hb).1.2.2.2.1, (far3 b hb).1.2.1, (far3 b hb).1.2.2.2.2.1, (far3 b hb).1.2.2.2.2.2⟩
      have noC : H5 s3.heap.objs.size = none := by
        have q : H5 ce.locals = none := I6.free
        rwa [loc] at q
      obtain ⟨names, q, _⟩ := I6.loc
      have q : s6.heap.Ns ce.locals names := q
      rw [loc] at q
      obtain ⟨f0, f1, _, f3, f4, f5⟩ := I3.fpOk (Nat.le_refl _) noC
      exact ⟨names, q, fun h2 sb => ⟨.ref D, H5, out.turned (t' := s6.toks) (fun b o hb e => (sb.2 b hb).trans e) f0 f1 f3 f4 f5, rfl, fin⟩⟩
    · refine thnF (T.item (X.blk s3 H3 scope ce fp) rfl rfl rfl hc i [] s5 _ H5 (fun _ _ => False) I5 (held I5 n5) st5 go) fun r s6 ⟨u, er, h6⟩ => ?_
      subst er
      refine thnF h6 fun _ s7 ⟨x, H7, I7, rx, yx, st7, n7⟩ => ?_
      refine thnF (gg.run _ s7 _ H7 x u _ (I7.pinned (held I7 n7) (T.obj _ _ st7)) rx (body x H7 yx)) fun _ s8 ⟨σ8, H8, I8, back8, q8⟩ => ?_
      have home : ∀ {z : Shared} {K : Hp}, Inv (X.blk s3 H3 scope ce fp) ([] ++ pinsAt fp s7.heap) σ8 K z → Nx K → ∃ m, m < n ∧ ∃ i K, Inv (X.blk s3 H3 scope ce fp) [] (wipe σ (own.map (·.2))) K z ∧ stA i z.heap ∧ (∀ b ∈ fp, K b = none) ∧ W i m K := fun {z K} I' nx => by
        obtain ⟨m', less, w'⟩ := nxt K nx
        have pinned : ∀ b ∈ fp, ∀ o, s7.heap.get? b = some o → z.heap.get? b = some o ∧ K b = none := fun b hb o e =>
          have q := I'.pin (b, o) (List.mem_append_right _ (List.mem_append_right _ (mem_pinsAt hb e)))
          ⟨q.1, q.2.1⟩
        refine ⟨m', less, i + 1, K, (I'.unpinned (pins := [])).weak (by rw [← back8, wipe_length]) (fun j v e => ?_), T.keep _ _ _ st7 fun b hb o e => (pinned b hb o e).1, fun b hb => ?_, w'⟩
        · rw [← back8] at e
          exact (wipe_some e).1
        · obtain ⟨o, e, _⟩ := T.obj _ _ st7 b hb
          exact (pinned b hb o e).2
      refine thnF (gt.run _ s8 σ8 H8 _ I8 q8) fun b s9 ⟨H9, I9, q9⟩ => ?_
      by_cases eb : b = true
      · subst eb
        simp only [if_true] at q9 ⊢
        refine thnF (gk.run _ s9 σ8 H9 _ I9 q9) fun _ s10 ⟨y, H10, I10, ry, q10⟩ => thnF (gv.run _ s10 σ8 H10 _ I10 q10) fun _ s11 ⟨z, H11, I11, rz, H12, put, nx⟩ => ?_
        exact put (X.blk s3 H3 scope ce fp) rfl rfl rfl _ σ8 _ _ _ _ _ I11 ry rz fun s12 I12 => home I12 nx
      · rw [Bool.not_eq_true] at eb
        subst eb
        simp only [Bool.false_eq_true, if_false] at q9 ⊢
        exact home I9 q9
  exact codeAny_compStart_dict loop (T.self X.A 0 _ _ _ st4 loop)⟩
end
end Dl
namespace Dl
open PySem L2 PySem.Spec PyProof.Rows PySem.Calls
open PySem.W (AllAlike Sortable alike)
section
variable {P : Program} {w : World} {A : Around} {E : Value → Shared → Prop} {s : Shared}
/-- sorted(x), x collected as tuples of ints -/
theorem sorted_rows {x : Value} {Q : Value → Shared → Prop} (hu : A.units + 64 < cLine) {L1 : List (Addr × List Int)} (ht : ∀ q ∈ L1, IsT P w s.heap q.2 q.1) (hne : ∀ p ∈ L1, p.2 ≠ []) (hlen : L1.length ≤ sizeLine)
    {Z : Shared → Prop} (hZ : ∀ z, Z z → ∀ b o, s.heap.get? b = some o → z.heap.get? b = some o) (col : ∀ (R : List Value → Shared → Prop), (∀ z, Z z → R (L1.map fun q => Value.ref q.1) z) → ∀ E', wpAny (model P w) A.in1 (collect x) R E' s)
    (hQ : ∀ z0 z p (out : List Value) (c : Nat) (L' : List (Addr × List Int)), Z z0 → (∀ b o, z0.heap.get? b = some o → z.heap.get? b = some o) → z.gens = z0.gens → z.os = z0.os → z0.heap.objs.size ≤ p →
      z.heap.get? p = some (seqObj "list" out.toArray c) → out = L'.map (fun q => Value.ref q.1) → L'.Perm L1 → L'.Pairwise (fun q r => q.2 ≤ r.2) → Q (.ref p) z) :
    wpAny (model P w) A (call (.builtin "sorted") [x]) Q E s := by
  refine call_function_entry kind_sorted plain_sorted entry_sorted (args_sorted1 _) ?_
  unfold Builtin.«sorted»
  refine wpAny_bind (m := checkCount "sorted" 1 1 _) (wpAny_pure ?_)
  refine wpAny_bind (col _ (fun z hz => ?_) _)
  have keep := hZ z hz
  refine wpAny_bind (wpAny_newList ?_ (by rw [List.length_map]; exact hlen))
  have hol : (z.heap.push (seqObj "list" (L1.map fun q => Value.ref q.1).toArray 0)).get? z.heap.objs.size = some (seqObj "list" (L1.map fun q => Value.ref q.1).toArray 0) := Heap.get?_push_size _ rfl
  have hrd : PySem.W.EachIs (fun v (b : Addr × List Int) => ∃ as, Reads (PySem.W.sortingHeap (z.heap.push (seqObj "list" (L1.map fun q => Value.ref q.1).toArray 0)) z.heap.objs.size (L1.map fun q => Value.ref q.1)) v (.tuple (b.2.map PyData.int)) as) (L1.map fun q => Value.ref q.1) L1 := by
    have gen : ∀ l : List (Addr × List Int), (∀ q ∈ l, q ∈ L1) → ∀ h : Heap, (∀ b o, s.heap.get? b = some o → h.get? b = some o) → PySem.W.EachIs (fun v (b : Addr × List Int) => ∃ as, Reads h v (.tuple (b.2.map PyData.int)) as) (l.map fun q => Value.ref q.1) l := by
      intro l
      induction l with
      | nil => exact fun _ _ _ => .nil
      | cons q l ih => exact fun hq h k => .cons (reads_isT (P := P) (w := w) (isT_keep (ht q (hq q List.mem_cons_self)) fun b o e => k b o e)) (ih (fun r hr => hq r (List.mem_cons_of_mem _ hr)) h k)
    refine gen L1 (fun _ h => h) _ fun b o e => ?_
    have e1 := keep b o e
    exact PySem.W.sortingHeap_old (Nat.ne_of_lt (Heap.lt_size e1)) (Heap.get?_push_of_some _ e1)
  have hrf : ∀ l : List (Addr × List Int), PySem.W.EachIs (fun v (b : Addr × List Int) => v = Value.ref b.1) (l.map fun q => Value.ref q.1) l := fun l => by
    induction l with
    | nil => exact .nil
    | cons q l ih => exact .cons rfl ih
  have hal : AllAlike (L1.map fun b => PyData.tuple (b.2.map PyData.int)) := AllAlike.of (enc := fun b : Addr × List Int => PyData.tuple (b.2.map PyData.int)) fun b c => alike_tups _ _
  have hk : Sortable (L1.map fun b => PyData.tuple (b.2.map PyData.int)) := .inl fun d hd => by
    obtain ⟨b, hb, rfl⟩ := List.mem_map.mp hd
    cases e : b.2 with
    | nil => exact absurd e (hne b hb)
    | cons x r => exact ⟨_, _, by rw [List.map_cons]⟩
  have S : PySem.W.SortsAt P w A.in1.in1 { z with heap := PySem.W.sortingHeap (z.heap.push (seqObj "list" (L1.map fun q => Value.ref q.1).toArray 0)) z.heap.objs.size (L1.map fun q => Value.ref q.1) } _ (L1.map fun q => Value.ref q.1) :=
    PySem.W.SortsAt.data (s := { z with heap := PySem.W.sortingHeap (z.heap.push (seqObj "list" (L1.map fun q => Value.ref q.1).toArray 0)) z.heap.objs.size (L1.map fun q => Value.ref q.1) }) (PySem.W.each_map (R := fun v d => ∃ as, Reads _ v d as) (fun b : Addr × List Int => PyData.tuple (b.2.map PyData.int)) hrd) hal hk fun d hd => by
      obtain ⟨b, _, rfl⟩ := List.mem_map.mp hd
      have h0 := PySem.W.depth_ints b.2
      have : A.in1.in1.units ≤ A.units + 2 := by simp [Around.in1]
      simp only [PyData.depth, h0]
      omega
  have so := PySem.W.sortVals_data (R := fun v (b : Addr × List Int) => v = Value.ref b.1) (enc := fun b : Addr × List Int => PyData.tuple (b.2.map PyData.int)) false (hrf L1) hrd hal
  refine wpAny_bind (wpAny_holding (wpAny_call_entry slot_list_sort ⟨_, hol, rfl⟩ entry_list_sort (PySem.W.list_sort_vals (s := { z with heap := z.heap.push (seqObj "list" (L1.map fun q => Value.ref q.1).toArray 0) }) hol S (by rw [List.length_map]; exact hlen) ⟨_, rfl, ?_⟩) (args_list_sort _)))
  obtain ⟨c, hc⟩ := sortedHeap_at (vs := L1.map fun q => Value.ref q.1) (out := (PySem.W.sortVals (PySem.W.dataKind _ (L1.map fun b => PyData.tuple (b.2.map PyData.int))) false (L1.map fun q => Value.ref q.1) (L1.map fun q => Value.ref q.1)).toArray) hol
  rw [dataLe_tups (fun b : Addr × List Int => b.2)] at so
  refine wpAny_pure ⟨_, rfl, hQ z _ z.heap.objs.size _ c (L1.mergeSort fun p q => decide (p.2 ≤ q.2)) hz (fun b u q => ?_) rfl rfl (Nat.le_refl _) hc ?_ (List.mergeSort_perm _ _) ?_⟩
  · have hlt := Heap.lt_size q
    refine (sortedHeap_old (Nat.ne_of_lt hlt) (by rw [size_push']; exact Nat.lt_succ_of_lt hlt)).trans ?_
    exact Heap.get?_push_of_some _ q
  · exact each_refs so
  · have := List.pairwise_mergeSort (le := fun p q : Addr × List Int => decide (p.2 ≤ q.2)) (fun a b c h1 h2 => decide_eq_true (List.le_trans (of_decide_eq_true h1) (of_decide_eq_true h2))) (fun a b => by
      rcases List.le_total a.2 b.2 with h | h
      · simp [h]
      · simp [h]) L1
    exact this.imp fun h => of_decide_eq_true h
end
section
variable {X : Cx}
/-- sorted(d), d a dict whose keys are tuples of ints -/
def rSortedKT (P : Program) (w : World) : List V → Hp → VK → Prop := fun vs H Q => ∃ (a : Addr) (L : List (Addr × List Int)), vs = [V.ref a] ∧ H a = some (DictTO P w a L) ∧ (∀ q ∈ L, Tu H q.1 (q.2.map V.int)) ∧ (∀ q ∈ L, q.2 ≠ []) ∧
  ∀ (L' : List (Addr × List Int)) (p : Addr), L'.Perm L → (L'.map (·.2)).Nodup → L'.Pairwise (fun q r => q.2 ≤ r.2) → H p = none → Q (.ref p) (upd H p (.lst (L'.map fun q => V.ref q.1)))
theorem cr_sortedKT (hc : X.calm = true) (hu : X.A.units + 64 < cLine) : CallR X (.builtin "sorted") (rSortedKT X.prog X.w) := by
  intro pins s σ H vs us Q I r h
  obtain ⟨a, L1, rfl, hd, h3, hne, q⟩ := h
  rw [Vals.ref1 r]
  obtain ⟨few, lo, ⟨o, es, ep, ho, hx, hdt, hes⟩, nd⟩ := (I.hok a _ hd).1
  have n1 : es.size = (entK L1).length := size_of_entries hes
  have n3 : (entK L1).length = L1.length := by unfold entK; rw [List.length_map]
  refine sorted_rows (s := s) hu (L1 := L1) (fun q hq => I.isT (h3 q hq).sq) hne few (Z := fun z => ∃ (h' : Heap) (tk : Nat), z = { s with heap := h', toks := tk } ∧ ∀ b o, s.heap.get? b = some o → h'.get? b = some o)
    (fun z ⟨h', tk, e, k⟩ => by subst e; exact k) (fun R hR E' => ?_) fun z0 z p out c L' hz keep hg hos hp hat hout pm pw => ?_
  · refine PySem.W.kdu_collect (A := X.A.in1) (kdl_raw lo hx hdt) (I.ok.hd hc) ho (by omega) fun h' tk acc keep items => ?_
    have e1 : acc.toList = L1.map fun q => Value.ref q.1 := by
      have e0 : L1.map (fun q => Value.ref q.1) = (entK L1).map fun x => Value.ref x.2.1 := by unfold entK; rw [List.map_map]; rfl
      rw [e0]
      refine List.ext_getElem (by rw [Array.length_toList, items.1, List.length_map, n1]) fun j j1 j2 => ?_
      have j3 : j < (entK L1).length := by simpa using j2
      obtain ⟨en, a1, a2⟩ := items.2 j acc.toList[j] (by rw [← Array.getElem?_toList, List.getElem?_eq_getElem j1])
      have a3 := entry_at hes j
      rw [a1, List.getElem?_eq_getElem j3] at a3
      have a4 : en = entryOfKey (tupleKind (mixKind X.prog X.w)) (entK L1)[j] := Option.some.inj a3
      rw [a2, a4, List.getElem_map]
      rfl
    rw [e1]
    exact hR _ ⟨h', tk, rfl, keep⟩
  · obtain ⟨h', tk, rfl, k0⟩ := hz
    subst hout
    have I1 : Inv X pins σ H { s with heap := h', toks := tk } := I.kept k0
    have hn : H p = none := I1.hok.fresh hp
    have hlen : (L'.map fun q => V.ref q.1).length ≤ sizeLine := by rw [List.length_map, pm.length_eq]; omega
    have J : Inv X pins σ (upd H p (.lst (L'.map fun q => V.ref q.1))) { ({ s with heap := h', toks := tk } : Shared) with heap := z.heap, gens := z.gens, drawn := z.drawn, toks := z.toks } :=
      I1.call (ch := []) (Un.laid keep hp hn) (I1.hok.laid keep hp ⟨hlen, _, c, vals_of_refs L', hat⟩) (by rw [hg]; exact I1.bare) (fun _ x => nomatch x)
    obtain ⟨zh, zg, zd, zt, zo⟩ := z
    obtain rfl : zo = s.os := hos
    exact ⟨.ref p, _, J, rfl, q L' p pm ((pm.map (·.2)).nodup_iff.mpr nd) pw hn⟩
end
end Dl
namespace Dl
open PySem L2
/-! ### the keys of a dict, as data -/
def insK {κ : Type} [DecidableEq κ] (ks : List κ) (k : κ) : List κ := if k ∈ ks then ks else ks ++ [k]
theorem insK_len {κ : Type} [DecidableEq κ] (ks : List κ) (k : κ) : (insK ks k).length ≤ ks.length + 1 := by
  unfold insK
  split
  · omega
  · simp
theorem insK_mem {κ : Type} [DecidableEq κ] (ks : List κ) (k z : κ) : z ∈ insK ks k ↔ z ∈ ks ∨ z = k := by
  unfold insK
  by_cases h : k ∈ ks
  · rw [if_pos h]
    exact ⟨.inl, fun e => e.elim id fun e => e ▸ h⟩
  · rw [if_neg h, List.mem_append, List.mem_singleton]
theorem insK_nodup {κ : Type} [DecidableEq κ] {ks : List κ} (h : ks.Nodup) (k : κ) : (insK ks k).Nodup := by
  unfold insK
  by_cases e : k ∈ ks
  · rw [if_pos e]; exact h
  · rw [if_neg e]
    exact List.nodup_append.mpr ⟨h, List.nodup_cons.mpr ⟨List.not_mem_nil, List.nodup_nil⟩, fun a ha b hb z => by
      rw [List.mem_singleton.mp hb] at z
      exact e (z ▸ ha)⟩
theorem ins_all {κ : Type} [DecidableEq κ] : ∀ (as ks : List κ), ks.Nodup → (as.foldl insK ks).Nodup ∧ (∀ z, z ∈ as.foldl insK ks ↔ z ∈ ks ∨ z ∈ as) ∧ (as.foldl insK ks).length ≤ ks.length + as.length
  | [], ks, h => ⟨h, by simp, by simp⟩
  | a :: as, ks, h => by
    obtain ⟨h1, h2, h3⟩ := ins_all as (insK ks a) (insK_nodup h a)
    have := insK_len ks a
    refine ⟨h1, fun z => ?_, by simp only [List.foldl_cons, List.length_cons]; omega⟩
    rw [List.foldl_cons, h2, insK_mem, List.mem_cons, or_assoc]
theorem putK_keys {κ : Type} [DecidableEq κ] {kvs : List (κ × V)} (k : κ) (v : V) : (putK kvs k v).map (·.1) = insK (kvs.map (·.1)) k := by
  unfold putK insK
  have e : (kvs.any fun kv => decide (kv.1 = k)) = true ↔ k ∈ kvs.map (·.1) := by
    rw [List.any_eq_true, List.mem_map]
    simp
  by_cases h : k ∈ kvs.map (·.1)
  · rw [if_pos (e.mpr h), if_pos h, List.map_map]
    refine List.map_congr_left fun p _ => ?_
    simp only [Function.comp]
    split <;> rfl
  · rw [if_neg fun z => h (e.mp z), if_neg h, List.map_append]
    rfl
theorem ins_map {α β : Type} [DecidableEq α] [DecidableEq β] {f : α → β} (inj : ∀ a b, f a = f b → a = b) (ks : List α) (k : α) : insK (ks.map f) (f k) = (insK ks k).map f := by
  unfold insK
  by_cases h : k ∈ ks
  · rw [if_pos h, if_pos (List.mem_map_of_mem h)]
  · rw [if_neg h, if_neg, List.map_append]
    · rfl
    · intro e
      obtain ⟨b, hb, e⟩ := List.mem_map.mp e
      exact h (inj _ _ e ▸ hb)
/-- a kind of keys -/
structure KD (P : Program) (w : World) (A : Around) (κ : Type) [DecidableEq κ] where
  enc : κ → D
  of : D → Option κ
  of_eq : ∀ {d : D} {k : κ}, of d = some k → d = enc k
  ho : Hp → Addr → List κ → HO → Prop
  nil : ∀ (G : Hp) (Dl : Addr), ∃ O0 : HO, (∀ (H : Hp) (h : Heap), PySem.sysModules < h.objs.size → h.objs.size = Dl → ObjOk P w H (h.push { cls := .type "dict", data := .dict #[] }) h.objs.size O0) ∧ ho G Dl [] O0
  mono : ∀ {G G' : Hp} {Dl : Addr} {ks : List κ} {O : HO}, Same G G' → ho G Dl ks O → ho G' Dl ks O
  put : ∀ {ks : List κ} {O : HO} {G H : Hp} {Dl : Addr} {v : V} {k : κ}, A.units + 64 < cLine → ho G Dl ks O → Same G H → H Dl = some O → ks.length < sizeLine → Rp G v (enc k) → ∃ O', PutOk P w A Dl v (.bl true) H (upd H Dl O') ∧ ho G Dl (insK ks k) O'
def kdT (P : Program) (w : World) (A : Around) : KD P w A (List Int) where
  enc := tupD
  of := fun d => match d with | .tuple ds => intsOf ds | _ => none
  of_eq := fun {d k} h => by
    match d, h with
    | .tuple ds, h => rw [intsOf_eq h]; rfl
  ho := fun G a ls O => ∃ L : List (Addr × List Int), O = DictTO P w a L ∧ L.map (·.2) = ls ∧ ∀ q ∈ L, Tu G q.1 (q.2.map V.int)
  nil := fun G a => ⟨DictTO P w a [], fun H h hb e => by subst e; exact dictTO_new (dictT0_empty P w h hb), [], rfl, rfl, fun _ h => nomatch h⟩
  mono := fun s ⟨L, h1, h2, h3⟩ => ⟨L, h1, h2, fun q hq => (h3 q hq).mono s⟩
  put := fun {ks O G H Dl v k} hu ⟨L, e, hk, hL⟩ s hD hl r => by
    subst e; subst hk
    cases r with
    | @tup b vs ds hp r =>
      obtain rfl := RpL.ints r
      refine ⟨DictTO P w Dl (insT L b k), put_tup hu hD (by simpa using hl) (fun q hq => (hL q hq).mono s) (hp.mono s), insT L b k, rfl, ?_, fun q hq => ?_⟩
      · unfold insT insK
        split
        · rfl
        · rw [List.map_append]; rfl
      · unfold insT at hq
        split at hq
        · exact hL q hq
        · rcases List.mem_append.mp hq with hq | hq
          · exact hL q hq
          · rw [List.mem_singleton.mp hq]
            exact hp
def kdI (P : Program) (w : World) (A : Around) : KD P w A Int where
  enc := PyData.int
  of := fun d => match d with | .int n => some n | _ => none
  of_eq := fun {d k} h => by
    match d, h with
    | .int n, h => cases h; rfl
  ho := fun _ _ ns O => ∃ kvs : List (Key × V), O = .dK kvs ∧ kvs.map (·.1) = ns.map Sum.inl
  nil := fun G a => ⟨.dK [], fun H h hb _ => dk_empty h hb, [], rfl, rfl⟩
  mono := fun _ h => h
  put := fun {ks O G H Dl v k} hu ⟨kvs, e, hk⟩ s hD hl r => by
    subst e
    cases r with
    | int _ =>
      have len : kvs.length = ks.length := by have := congrArg List.length hk; simpa using this
      refine ⟨.dK (putK kvs (.inl k) (.bl true)), put_int hD (by omega), _, rfl, ?_⟩
      rw [putK_keys, hk]
      exact ins_map (f := fun n : Int => (Sum.inl n : Key)) (fun a b e => by cases e; rfl) ks k
/-! ### a dict comprehension, read -/
section
variable {P : Program} {w : World} {A : Around} {κ : Type} [DecidableEq κ]
def cR (K : KD P w A κ) (f : D → M (Option D)) : List D → M (List κ)
  | [] => fun q m => q [] m
  | d :: ds => fun q m => f d (fun o m1 => match o with | some x => ∃ k, K.of x = some k ∧ cR K f ds (fun r m2 => q (k :: r) m2) m1 | none => cR K f ds q m1) m
def dcM (K : KD P w A κ) (Ti : M (List D)) (f : D → M (Option D)) : M (List κ) := fun q m => Ti (fun ds m1 => ds.length < sizeLine ∧ cR K f ds q m1) m
def tKs (K : KD P w A κ) (R : Res) (ρ : List Cell) (T : M (List κ)) : TE := fun σ H Q => ∃ G m q, Sit R σ ρ G H m ∧ T q m ∧ ∀ p O as G' H' m', Sit R σ ρ G' H' m' → Grow R.vol G H G' H' → H p = none → G' p = none → H' p = some O → K.ho G' p (as.foldl insK []) O → q as m' → Q (.ref p) H'
variable {X : Cx} {R : Res} {ρ : List Cell} {tg iter kx : Expr} {ifs : List Expr} {scope : Scope} {own : List (Str × Nat)} {pos : Pos}
theorem dc_read {K : KD X.prog X.w X.A κ} {Ti : M (List D)} {sl : List Nat} {bd : List Cell → D → Option (List Cell)} {f : D → M (Option D)} (hu : X.A.units + 64 < cLine) (hsl : ∀ j ∈ sl, j ∈ own.map (·.2)) (body : LcBody X R ρ scope own ifs kx bd f) (σ : L2.St) (H : Hp) (Q : VK)
    (h : tKs K R ρ (dcM K Ti f) σ H Q) : tDcA X.prog X.w X.A (tI R tg ρ Ti) (tG R tg sl bd) (ttAny X R scope ifs) (teAny X R scope kx) (tC (.bl true)) (own.map (·.2)) σ H Q := by
  obtain ⟨G, m, q, S, t, k⟩ := h
  refine ⟨G, m, _, S, t, fun J ds G1 H1 m1 S1 g1 W q1 Dl hD => ?_⟩
  obtain ⟨hz, q1⟩ := q1
  obtain ⟨O0, kind, ho0⟩ := K.nil G1 Dl
  refine ⟨O0, kind, ?_⟩
  have hnv : ¬ R.vol Dl := fun v => S1.vh Dl v hD
  let Pv : Nat → Hp → Prop := fun i H' => ∃ (Gi : Hp) (mi : Nat) (as : List κ) (O : HO), Grow R.vol G1 H1 Gi H' ∧ Sit R σ ρ Gi H' mi ∧ Gi Dl = none ∧ H' Dl = some O ∧ K.ho Gi Dl (as.foldl insK []) O ∧ as.length ≤ i ∧ cR K f (ds.drop i) (fun r m => q (as ++ r) m) mi
  refine ⟨fun i mm H' => mm = ds.length - i ∧ i ≤ ds.length ∧ Pv i H', ⟨ds.length, by omega, Nat.zero_le _, ?_⟩, ?_⟩
  · obtain ⟨g, s⟩ := grow_own S1.gh hD O0
    obtain ⟨S2, g2⟩ := S1.growS g s
    exact ⟨G1, m1, [], O0, g2, S2, S1.gh.free hD, upd_same, ho0, Nat.le_refl _, q1⟩
  rintro i mm Hi ⟨rfl, hi, Gi, mi, as, O, g, S', gD, hDi, ho, hl, hq⟩
  have sm : Same G1 Hi := g.gg.trans S'.gh
  by_cases hlt : i < ds.length
  · refine .inr ⟨W.go i Hi sm hlt, Pv (i + 1), fun K' p' => ⟨ds.length - (i + 1), by omega, rfl, hlt, p'⟩, fun x Hi' y => ?_⟩
    obtain ⟨d, hd, hy⟩ := W.yld i Hi x Hi' sm hlt y
    have hdrop : ds.drop i = d :: ds.drop (i + 1) := by
      obtain ⟨h1, h2⟩ := List.getElem?_eq_some_iff.mp hd
      rw [List.drop_eq_getElem_cons h1, h2]
    rw [hdrop] at hq
    obtain ⟨ρ', Tt, Te, hbd, okt, oke, turn⟩ := body d _ mi hq
    have item : ∃ Gj, Grow R.vol G1 H1 Gj Hi' ∧ Sit R σ ρ Gj Hi' mi ∧ Gj Dl = none ∧ Hi' Dl = some O ∧ ItR tg Gj x d ∧ Same Gi Gj := by
      rcases hy with ⟨rfl, rx⟩ | ⟨tt, p, ws, es, rfl, hp, rfl, rfl, rx⟩
      · exact ⟨Gi, g, S', gD, hDi, .inl (rx.mono g.gg), Same.refl _⟩
      · obtain ⟨g2, s2⟩ := grow_new S'.gh hp (.tup ws)
        obtain ⟨S2, g2'⟩ := S'.growS g2 s2
        have ne : Dl ≠ p := fun z => by subst z; rw [hDi] at hp; cases hp
        exact ⟨_, g.trans S'.vh g2', S2, by rw [upd_ne ne]; exact gD, by rw [upd_ne ne]; exact hDi, .inr ⟨tt, p, ws, es, rfl, upd_same, rfl, rx.mono (g.gg.trans g2.gg)⟩, g2.gg⟩
    obtain ⟨Gj, gj, Sj, gDj, hDj, rx, sij⟩ := item
    have hwl : (wipe σ (own.map (·.2))).length = σ.length := wipe_length _ _
    refine ⟨Gj, mi, d, wipeC ρ (own.map (·.2)), ρ', Sj.wipe _, rx, hbd, fun σ2 S2 l2 f2 => ⟨wipe_eq (l2.trans hwl) fun j hj => f2 j fun z => hj (hsl j z), ρ', Tt, okt, Gj, mi, _, S2, turn, fun t G3 H3 m3 S3 g3 q3 => ?_⟩⟩
    have gD3 : G3 Dl = none := g3.new Dl gDj (by rw [hDj]; exact fun z => nomatch z)
    have hD3 : H3 Dl = some O := g3.hh Dl _ hnv hDj
    cases t with
    | false =>
      show Pv (i + 1) H3
      have g' := gj.trans Sj.vh g3
      exact ⟨G3, m3, as, O, g', S1.grow g' S3.gh S3.vh S3.jd, gD3, hD3, K.mono (sij.trans g3.gg) ho, Nat.le_succ_of_le hl, q3⟩
    | true =>
      show ∃ ρ' T, OkE X R scope ρ' kx T ∧ tJ R ρ' T σ2 H3 _
      refine ⟨ρ', Te, oke, G3, m3, _, S3, q3, fun v y G4 H4 m4 S4 g4 r4 q4 => ?_⟩
      have gD4 : G4 Dl = none := g4.new Dl gD3 (by rw [hD3]; exact fun z => nomatch z)
      have hD4 : H4 Dl = some O := g4.hh Dl _ hnv hD3
      obtain ⟨key, hkey, q4⟩ := q4
      obtain rfl := K.of_eq hkey
      have lens := (ins_all as [] List.nodup_nil).2.2
      rw [List.length_nil, Nat.zero_add] at lens
      obtain ⟨O', put, ho'⟩ := K.put hu (K.mono ((sij.trans g3.gg).trans g4.gg) ho) S4.gh hD4 (by omega) r4
      have g' := (gj.trans Sj.vh g3).trans S3.vh g4
      have g5 : Grow R.vol G1 H1 G4 (upd H4 Dl O') := g'.back hD
      refine (?_ : ∃ H6, PutOk X.prog X.w X.A Dl v (.bl true) H4 H6 ∧ Pv (i + 1) H6)
      refine ⟨_, put, G4, m4, as ++ [key], O', g5, S1.grow g5 (fun a o h => by rw [upd_ne (ne_of_none h gD4)]; exact S4.gh a o h) (fun a va => ?_) (R.dm (fun a va => upd_ne fun z => hnv (z ▸ va)) S4.jd), gD4, upd_same, by rw [List.foldl_append]; exact ho', by simp; exact hl, ?_⟩
      · by_cases z : a = Dl
        · exact absurd (z ▸ va) hnv
        · rw [upd_ne z]; exact S4.vh a va
      · have e : (fun r m => q (as ++ [key] ++ r) m) = fun r m => q (as ++ (key :: r)) m := by
          funext r m
          rw [List.append_assoc]; rfl
        rw [e]
        exact q4
  · have e : i = ds.length := by omega
    subst e
    refine .inl ⟨W.stop Hi sm, ?_⟩
    rw [List.drop_length] at hq
    have hq : q (as ++ []) mi := hq
    rw [List.append_nil] at hq
    exact k Dl O as Gi Hi mi S' (g1.trans S1.vh g) (free_of g1 S1.vh hD) gD hDi ho hq
end
end Dl
namespace Dl
open PySem L2
section
variable {X : Cx} {R : Res} {ρ : List Cell} {tg iter kx : Expr} {ifs : List Expr} {scope : Scope} {own : List (Str × Nat)} {pos pos2 p pc : Pos} {j : Nat}
theorem jd_dc {κ : Type} [DecidableEq κ] {K : KD X.prog X.w X.A κ} {Ti : M (List D)} {sl : List Nat} {bd : List Cell → D → Option (List Cell)} {f : D → M (Option D)} {k : Nat} (B : Bx X k) (hi : JI X R ρ tg iter Ti) (ok : BlkOk X.N X.env.scope scope own) (hsl : ∀ j ∈ sl, j ∈ own.map (·.2))
    (hg : ∀ (s : Shared) (H : Hp) (C : Addr) (cl : List (Str × Addr)) (fp : List Addr), JG (X.blk s H scope (compEnvC scope cl C X.env) fp) R tg sl bd) (body : LcBody X R ρ scope own ifs kx bd f)
    (hs : ∀ x, foldedSetIterable iter X.env x = pure x := by intro _; rfl) : PE X (.DictComp kx (.Constant (.bool true) j pc) [⟨tg, iter, ifs, 0⟩] scope pos) (tKs K R ρ (dcM K Ti f)) :=
  PE.imp (pe_dcA B.hc B.u64 B.nd hi ok hg ttAny_ok teAny_ok (fun _ _ _ _ _ => pe_bl) hs) (dc_read B.u64 hsl body)
theorem jl_sdc {Ti : M (List D)} {sl : List Nat} {bd : List Cell → D → Option (List Cell)} {f : D → M (Option D)} {k : Nat} (B : Bx X k) (hi : JI X R ρ tg iter Ti) (ok : BlkOk X.N X.env.scope scope own) (hsl : ∀ j ∈ sl, j ∈ own.map (·.2))
    (hg : ∀ (s : Shared) (H : Hp) (C : Addr) (cl : List (Str × Addr)) (fp : List Addr), JG (X.blk s H scope (compEnvC scope cl C X.env) fp) R tg sl bd) (body : LcBody X R ρ scope own ifs kx bd f) (hm : X.mg "sorted" = none)
    (hs : ∀ x, foldedSetIterable iter X.env x = pure x := by intro _; rfl) (hgl : Gl X "sorted" := by rfl)
    (he : starEach [.DictComp kx (.Constant (.bool true) j pc) [⟨tg, iter, ifs, 0⟩] scope pos] X.env = (false, eval (.DictComp kx (.Constant (.bool true) j pc) [⟨tg, iter, ifs, 0⟩] scope pos) X.env) :: starEach [] X.env := by rfl) (hpl : (backTo pos2 (starEach [] X.env)).any (·.1) = false := by rfl) :
    JL X R ρ (.Call (.Name "sorted" p) [.DictComp kx (.Constant (.bool true) j pc) [⟨tg, iter, ifs, 0⟩] scope pos] [] pos2) (fun q => dcM (kdT X.prog X.w X.A) Ti f fun ls m => (∀ l ∈ ls, l ≠ []) ∧ q ((ssT ls).map tupD) m) :=
  PE.imp (pe_callB (cr_sortedKT B.hc B.u64) hgl hm (by rfl) (pa_cons (jd_dc (K := kdT X.prog X.w X.A) B hi ok hsl hg body hs) pa_nil he) (by decide) (by decide) he hpl) fun σ H Q ⟨G, m, q, S, t, c⟩ => by
    refine ⟨G, m, _, S, t, fun a O as G' H' m' S' g ha ga hO ho hq => ?_⟩
    obtain ⟨ne, hq⟩ := hq
    obtain ⟨L, rfl, hL, hk⟩ := ho
    obtain ⟨n1, n2, n3⟩ := ins_all as [] List.nodup_nil
    refine ⟨a, L, rfl, hO, fun z hz => (hk z hz).mono S'.gh, fun z hz => ne _ ?_, fun L' b pm nd pw hb => ?_⟩
    · have : z.2 ∈ as.foldl insK [] := by rw [← hL]; exact List.mem_map_of_mem hz
      simpa using (n2 z.2).mp this
    · obtain ⟨g2, s2⟩ := grow_own S'.gh hb (.lst (L'.map fun q => V.ref q.1))
      obtain ⟨S2, g2'⟩ := S'.growS g2 s2
      have e : L'.map (·.2) = ssT as := by
        refine ssT_one (le_strict (le := fun a b => a ≤ b) (List.pairwise_map.mpr pw) nd) fun z => ?_
        have e1 : z ∈ L'.map (·.2) ↔ z ∈ L.map (·.2) := (pm.map (·.2)).mem_iff
        rw [e1, hL, n2]
        simp
      refine c b _ _ G' _ m' S2 (g.trans S'.vh g2') (free_of g S'.vh hb) (S'.gh.free hb) upd_same ?_ hq
      rw [← e]
      exact rpl_ofTups fun z hz => hk z (pm.mem_iff.mp hz)
theorem jm_ldc {Ti : M (List D)} {sl : List Nat} {bd : List Cell → D → Option (List Cell)} {f : D → M (Option D)} {k : Nat} (B : Bx X k) (hi : JI X R ρ tg iter Ti) (ok : BlkOk X.N X.env.scope scope own) (hsl : ∀ j ∈ sl, j ∈ own.map (·.2))
    (hg : ∀ (s : Shared) (H : Hp) (C : Addr) (cl : List (Str × Addr)) (fp : List Addr), JG (X.blk s H scope (compEnvC scope cl C X.env) fp) R tg sl bd) (body : LcBody X R ρ scope own ifs kx bd f) (hm : X.mg "len" = none)
    (hs : ∀ x, foldedSetIterable iter X.env x = pure x := by intro _; rfl) (hgl : Gl X "len" := by rfl)
    (he : starEach [.DictComp kx (.Constant (.bool true) j pc) [⟨tg, iter, ifs, 0⟩] scope pos] X.env = (false, eval (.DictComp kx (.Constant (.bool true) j pc) [⟨tg, iter, ifs, 0⟩] scope pos) X.env) :: starEach [] X.env := by rfl) (hpl : (backTo pos2 (starEach [] X.env)).any (·.1) = false := by rfl) :
    JM X R ρ (.Call (.Name "len" p) [.DictComp kx (.Constant (.bool true) j pc) [⟨tg, iter, ifs, 0⟩] scope pos] [] pos2) (fun q => dcM (kdI X.prog X.w X.A) Ti f fun ns m => q (.int ((dd ns).length : Nat)) m) :=
  PE.imp (pe_callB call_lenD hgl hm (by rfl) (pa_cons (jd_dc (K := kdI X.prog X.w X.A) B hi ok hsl hg body hs) pa_nil he) (by decide) (by decide) he hpl) fun σ H Q ⟨G, m, q, S, t, c⟩ => by
    refine ⟨G, m, _, S, t, fun a O as G' H' m' S' g ha ga hO ho hq => ?_⟩
    obtain ⟨kvs, rfl, hk⟩ := ho
    obtain ⟨n1, n2, n3⟩ := ins_all as [] List.nodup_nil
    refine ⟨a, kvs, rfl, hO, ?_⟩
    have e : kvs.length = (dd as).length := by
      have e1 := congrArg List.length hk
      rw [List.length_map, List.length_map] at e1
      rw [e1]
      exact ((List.perm_ext_iff_of_nodup n1 (nodup_dd as)).mpr fun z => by rw [n2, mem_dd]; simp).length_eq
    rw [e]
    exact c _ _ G' H' m' S' g (.int _) hq
variable {k : Nat}
theorem cR_of {κ : Type} [DecidableEq κ] {P : Program} {w : World} {A : Around} {K : KD P w A κ} {F : D → Option (Option D)} {ks : List D → Option (List κ)} (h0 : ks [] = some []) (h1 : ∀ x r l, ks (x :: r) = some l → ∃ a l', K.of x = some a ∧ ks r = some l' ∧ l = a :: l') : ∀ {ds r : List D} {l : List κ} {q : List κ → Nat → Prop} {m : Nat}, cO F ds = some r → ks r = some l → q l m → cR K (fun d => lift (F d)) ds q m
  | [], r, l, q, m, h, hk, hq => by
    cases h
    rw [h0] at hk
    cases hk
    exact hq
  | d :: ds, r, l, q, m, h, hk, hq => by
    obtain ⟨o, h2, h⟩ := Option.bind_eq_some_iff.mp h
    obtain ⟨r', h3, h⟩ := Option.bind_eq_some_iff.mp h
    cases h
    refine ⟨o, h2, ?_⟩
    cases o with
    | none => exact cR_of h0 h1 h3 hk hq
    | some x =>
      obtain ⟨a, l', e1, e2, rfl⟩ := h1 x r' l hk
      exact ⟨a, e1, cR_of h0 h1 (q := fun r m => q (a :: r) m) h3 e2 hq⟩
theorem dc_of {κ : Type} [DecidableEq κ] {P : Program} {w : World} {A : Around} {K : KD P w A κ} {oi : Option (List D)} {F : D → Option (Option D)} {ks : List D → Option (List κ)} (h0 : ks [] = some []) (h1 : ∀ x r l, ks (x :: r) = some l → ∃ a l', K.of x = some a ∧ ks r = some l' ∧ l = a :: l') {r : List D} {l : List κ} {q : List κ → Nat → Prop} {m : Nat} (h : lcO oi F = some r) (hk : ks r = some l) (hq : q l m) : dcM K (lift oi) (fun d => lift (F d)) q m := by
  obtain ⟨ds, e1, h⟩ := Option.bind_eq_some_iff.mp h
  by_cases hz : ds.length < sizeLine
  · rw [if_pos hz] at h
    exact ⟨ds, e1, hz, cR_of h0 h1 h hk hq⟩
  · rw [if_neg hz] at h; cases h
/-- sorted({k: True for ..}), len({k: True for ..}) -/
def dSK (ds : List D) : Option (List D) := (rowsD ds).bind fun ls => if (ls.all fun l => !l.isEmpty) = true then some ((ssT ls).map tupD) else none
def dLK (ds : List D) : Option D := (intsOf ds).map fun ns => .int ((dd ns).length : Nat)
theorem jle_sdc1 {oi : Option (List D)} {i : Nat} {ot : D → Option Bool} {oe : D → Option D} (B : Bx X k) (hi : JIE X R ρ tg iter oi) (ok : BlkOk X.N X.env.scope scope own)
    (hg : ∀ (s : Shared) (H : Hp) (C : Addr) (cl : List (Str × Addr)) (fp : List Addr), JG (X.blk s H scope (compEnvC scope cl C X.env) fp) R tg [i] (bd1 i))
    (ht : ∀ d, OkTE X R scope ((wipeC ρ (own.map (·.2))).set i (.dat d)) ifs (ot d)) (he : ∀ d, OkEE X R scope ((wipeC ρ (own.map (·.2))).set i (.dat d)) kx (oe d)) (hm : X.mg "sorted" = none)
    (hsl : ∀ j ∈ [i], j ∈ own.map (·.2) := by decide) (hs : ∀ x, foldedSetIterable iter X.env x = pure x := by intro _; rfl) (hgl : Gl X "sorted" := by rfl)
    (hst : starEach [.DictComp kx (.Constant (.bool true) j pc) [⟨tg, iter, ifs, 0⟩] scope pos] X.env = (false, eval (.DictComp kx (.Constant (.bool true) j pc) [⟨tg, iter, ifs, 0⟩] scope pos) X.env) :: starEach [] X.env := by rfl) (hpl : (backTo pos2 (starEach [] X.env)).any (·.1) = false := by rfl) :
    JLE X R ρ (.Call (.Name "sorted" p) [.DictComp kx (.Constant (.bool true) j pc) [⟨tg, iter, ifs, 0⟩] scope pos] [] pos2) ((lcO oi fun d => turnO (ot d) (oe d)).bind dSK) :=
  (jl_sdc B hi ok hsl hg (f := fun d => lift (turnO (ot d) (oe d))) (fun d q m h => ⟨_, _, _, rfl, ht d, he d, turnO_M h⟩) hm hs hgl hst hpl).imp fun q m h => by
    obtain ⟨z, h1, hq⟩ := h
    obtain ⟨r, h2, h1⟩ := Option.bind_eq_some_iff.mp h1
    obtain ⟨ls, h3, h1⟩ := Option.bind_eq_some_iff.mp h1
    by_cases hne : (ls.all fun l => !l.isEmpty) = true
    · rw [if_pos hne] at h1
      cases h1
      refine dc_of (K := kdT X.prog X.w X.A) (ks := rowsD) rfl (fun x r l hl => ?_) h2 h3 ⟨fun l hl e => ?_, hq⟩
      · match x, hl with
        | .tuple xs, hl =>
          obtain ⟨a, e1, hl⟩ := Option.bind_eq_some_iff.mp hl
          obtain ⟨l', e2, e3⟩ := Option.map_eq_some_iff.mp hl
          exact ⟨a, l', e1, e2, e3.symm⟩
      · have := List.all_eq_true.mp hne l hl
        rw [e] at this
        cases this
    · rw [if_neg hne] at h1; cases h1
theorem je_ldc1 {oi : Option (List D)} {i : Nat} {ot : D → Option Bool} {oe : D → Option D} (B : Bx X k) (hi : JIE X R ρ tg iter oi) (ok : BlkOk X.N X.env.scope scope own)
    (hg : ∀ (s : Shared) (H : Hp) (C : Addr) (cl : List (Str × Addr)) (fp : List Addr), JG (X.blk s H scope (compEnvC scope cl C X.env) fp) R tg [i] (bd1 i))
    (ht : ∀ d, OkTE X R scope ((wipeC ρ (own.map (·.2))).set i (.dat d)) ifs (ot d)) (he : ∀ d, OkEE X R scope ((wipeC ρ (own.map (·.2))).set i (.dat d)) kx (oe d)) (hm : X.mg "len" = none)
    (hsl : ∀ j ∈ [i], j ∈ own.map (·.2) := by decide) (hs : ∀ x, foldedSetIterable iter X.env x = pure x := by intro _; rfl) (hgl : Gl X "len" := by rfl)
    (hst : starEach [.DictComp kx (.Constant (.bool true) j pc) [⟨tg, iter, ifs, 0⟩] scope pos] X.env = (false, eval (.DictComp kx (.Constant (.bool true) j pc) [⟨tg, iter, ifs, 0⟩] scope pos) X.env) :: starEach [] X.env := by rfl) (hpl : (backTo pos2 (starEach [] X.env)).any (·.1) = false := by rfl) :
    JE X R ρ (.Call (.Name "len" p) [.DictComp kx (.Constant (.bool true) j pc) [⟨tg, iter, ifs, 0⟩] scope pos] [] pos2) ((lcO oi fun d => turnO (ot d) (oe d)).bind dLK) :=
  (jm_ldc B hi ok hsl hg (f := fun d => lift (turnO (ot d) (oe d))) (fun d q m h => ⟨_, _, _, rfl, ht d, he d, turnO_M h⟩) hm hs hgl hst hpl).imp fun q m h => by
    obtain ⟨z, h1, hq⟩ := h
    obtain ⟨r, h2, h1⟩ := Option.bind_eq_some_iff.mp h1
    obtain ⟨ns, h3, rfl⟩ := Option.map_eq_some_iff.mp h1
    refine dc_of (K := kdI X.prog X.w X.A) (ks := intsOf) rfl (fun x r l hl => ?_) h2 h3 hq
    match x, hl with
    | .int n, hl =>
      obtain ⟨l', e2, e3⟩ := Option.map_eq_some_iff.mp hl
      exact ⟨n, l', rfl, e2, e3.symm⟩
end
end Dl

set_option Elab.async false
set_option linter.all false
set_option autoImplicit false
set_option maxRecDepth 100000
set_option maxHeartbeats 1000000
namespace Dl
open PySem L2
/-! ### list comprehensions with two clauses, the first without a test -/
def inM (g : D → M (Option D)) : List D → List D → M (List D)
  | [], as => fun q m => q as m
  | d :: ds, as => fun q m => g d (fun o m1 => match o with | some y => as.length < sizeLine ∧ inM g ds (as ++ [y]) q m1 | none => inM g ds as q m1) m
def outM (fi : D → M (List D)) (g : D → D → M (Option D)) : List D → List D → M (List D)
  | [], as => fun q m => q as m
  | d :: ds, as => fun q m => fi d (fun ds1 m1 => inM (g d) ds1 as (fun as' m2 => outM fi g ds as' q m2) m1) m
def lc2M (Ti : M (List D)) (fi : D → M (List D)) (g : D → D → M (Option D)) : M (List D) := fun q m => Ti (fun ds m1 => outM fi g ds [] q m1) m
section
variable {X : Cx} {R : Res} {ρ : List Cell} {iter elt iter1 : Expr} {ifs1 : List Expr} {scope : Scope} {own : List (Str × Nat)} {pos px py : Pos} {i0 i1 : Nat} {x y : Str}
def OkI (X : Cx) (R : Res) (scope : Scope) (ρ : List Cell) (tg iter : Expr) (T : M (List D)) : Prop := ∀ (s : Shared) (H : Hp) (C : Addr) (cl : List (Str × Addr)) (fp : List Addr), JI (X.blk s H scope (compEnvC scope cl C X.env) fp) R ρ tg iter T
def tiAny (X : Cx) (R : Res) (scope : Scope) (tg iter : Expr) : TI := fun σ H Rr => ∃ ρ' T, OkI X R scope ρ' tg iter T ∧ tI R tg ρ' T σ H Rr
theorem tiAny_ok {tg iter : Expr} (s : Shared) (H : Hp) (C : Addr) (cl : List (Str × Addr)) (fp : List Addr) : PI (X.blk s H scope (compEnvC scope cl C X.env) fp) tg iter (tiAny X R scope tg iter) := ⟨fun pins s2 σ H2 Q I ⟨ρ', T, h, q⟩ => (h s H C cl fp).run pins s2 σ H2 Q I q⟩
/-- the two targets' cells -/
def c1 (ρ : List Cell) (own : List (Str × Nat)) (i0 : Nat) (d : D) : List Cell := (wipeC ρ (own.map (·.2))).set i0 (.dat d)
def c2 (ρ : List Cell) (own : List (Str × Nat)) (i0 i1 : Nat) (d e : D) : List Cell := (wipeC (c1 ρ own i0 d) [i1]).set i1 (.dat e)
def Lc2Body (X : Cx) (R : Res) (ρ : List Cell) (scope : Scope) (own : List (Str × Nat)) (i0 i1 : Nat) (y : Str) (py : Pos) (iter1 : Expr) (ifs1 : List Expr) (elt : Expr) (fi : D → M (List D)) (g : D → D → M (Option D)) : Prop :=
  ∀ d : D, OkI X R scope (c1 ρ own i0 d) (.Name y py) iter1 (fi d) ∧ ∀ (e : D) (q : Option D → Nat → Prop) (m : Nat), g d e q m → ∃ (Tt : M Bool) (Te : M D), OkT X R scope (c2 ρ own i0 i1 d e) ifs1 Tt ∧ OkE X R scope (c2 ρ own i0 i1 d e) elt Te ∧ turnM Tt Te q m
theorem Sit.updN {σ : L2.St} {G H : Hp} {m : Nat} {p : Addr} {o : HO} (S : Sit R σ ρ G H m) (hG : G p = none) (hv : ¬ R.vol p) (own : ∀ (i : Nat) (ds : List D) (l : Addr), ρ[i]? = some (.own ds) → σ[i]? = some (some (.ref l)) → l ≠ p) : Sit R σ ρ G (upd H p o) m where
  gh := fun a u h => by rw [upd_ne (ne_of_none h hG)]; exact S.gh a u h
  vg := S.vg
  vh := fun a v => by rw [upd_ne fun e : a = p => hv (e ▸ v)]; exact S.vh a v
  js := S.js
  jd := R.dm (fun a v => upd_ne fun e : a = p => hv (e ▸ v)) S.jd
  en := fun a h => by
    by_cases e : a = p
    · subst e; rw [upd_same] at h; cases h
    · rw [upd_ne e] at h; exact S.en a h
  len := S.len
  cell := fun i c hc => by
    have h := S.cell i c hc
    cases c with
    | no => trivial
    | dat d => exact h
    | raw v => exact h
    | own ds =>
      obtain ⟨l, vs, a1, a2, a3, a4, a5, a6⟩ := h
      exact ⟨l, vs, a1, a2, a3, a4, by rw [upd_ne (own i ds l hc a1)]; exact a5, a6⟩
  apart := S.apart
theorem wipeC_own {ρ : List Cell} : ∀ (vs : List Nat) (j : Nat) (ds : List D), (wipeC ρ vs)[j]? = some (.own ds) → ρ[j]? = some (.own ds) ∧ j ∉ vs
  | [], j, ds, h => ⟨h, List.not_mem_nil⟩
  | v :: vs, j, ds, h => by
    have h : ((wipeC ρ vs).set v .no)[j]? = some (.own ds) := h
    rw [List.getElem?_set] at h
    by_cases e : v = j
    · rw [if_pos e] at h
      split at h <;> cases h
    · rw [if_neg e] at h
      obtain ⟨h1, h2⟩ := wipeC_own vs j ds h
      exact ⟨h1, fun z => (List.mem_cons.mp z).elim (fun z => e z.symm) h2⟩
theorem lc2_read {x0 : Str} {p0 : Pos} {Ti : M (List D)} {fi : D → M (List D)} {g : D → D → M (Option D)} (h0 : i0 ∈ own.map (·.2)) (h1 : i1 ∈ own.map (·.2)) (body : Lc2Body X R ρ scope own i0 i1 y py iter1 ifs1 elt fi g) (σ : L2.St) (H : Hp) (Q : VK)
    (h : tL R ρ (lc2M Ti fi g) σ H Q) : tLc2 (tI R (.Name x0 p0) ρ Ti) (tG R (.Name x0 p0) [i0] (bd1 i0)) (ttAny X R scope []) (tiAny X R scope (.Name y py) iter1) (tG R (.Name y py) [i1] (bd1 i1)) (ttAny X R scope ifs1) (teAny X R scope elt) (own.map (·.2)) [i1] σ H Q := by
  obtain ⟨G, m, q, S, t, k⟩ := h
  refine ⟨G, m, _, S, t, fun J ds G1 H1 m1 S1 g1 W q1 Dl hD => ?_⟩
  have hnv : ¬ R.vol Dl := fun v => S1.vh Dl v hD
  let Pv : Nat → Hp → Prop := fun i H' => ∃ (Gi : Hp) (mi : Nat) (as : List D) (vs : List V), Grow R.vol G1 H1 Gi H' ∧ Sit R σ ρ Gi H' mi ∧ Gi Dl = none ∧ H' Dl = some (.lst vs) ∧ RpL Gi vs as ∧ outM fi g (ds.drop i) as q mi
  refine ⟨fun i mm H' => mm = ds.length - i ∧ i ≤ ds.length ∧ Pv i H', ⟨ds.length, by omega, Nat.zero_le _, ?_⟩, ?_⟩
  · obtain ⟨g2, s2⟩ := grow_own S1.gh hD (.lst [])
    obtain ⟨S2, g3⟩ := S1.growS g2 s2
    exact ⟨G1, m1, [], [], g3, S2, S1.gh.free hD, upd_same, .nil, q1⟩
  rintro i mm Hi ⟨rfl, hi, Gi, mi, as, vs, gi, S', gD, hDi, r, hq⟩
  have sm : Same G1 Hi := gi.gg.trans S'.gh
  by_cases hlt : i < ds.length
  · refine .inr ⟨W.go i Hi sm hlt, Pv (i + 1), fun K' p' => ⟨ds.length - (i + 1), by omega, rfl, hlt, p'⟩, fun xv Hi' hy => ?_⟩
    obtain ⟨d, hd, hy⟩ := W.yld i Hi xv Hi' sm hlt hy
    have hdrop : ds.drop i = d :: ds.drop (i + 1) := by
      obtain ⟨a1, a2⟩ := List.getElem?_eq_some_iff.mp hd
      rw [List.drop_eq_getElem_cons a1, a2]
    rw [hdrop] at hq
    have item : ∃ Gj, Grow R.vol G1 H1 Gj Hi' ∧ Sit R σ ρ Gj Hi' mi ∧ Gj Dl = none ∧ Hi' Dl = some (.lst vs) ∧ RpL Gj vs as ∧ ItR (.Name x0 p0) Gj xv d := by
      rcases hy with ⟨rfl, rx⟩ | ⟨⟨_, _, _, tt⟩, p, ws, es, rfl, hp, rfl, rfl, rx⟩
      · exact ⟨Gi, gi, S', gD, hDi, r, .inl (rx.mono gi.gg)⟩
      · cases tt
    obtain ⟨Gj, gj, Sj, gDj, hDj, rj, rx⟩ := item
    have hwl : (wipe σ (own.map (·.2))).length = σ.length := wipe_length _ _
    have hbd : bd1 i0 (wipeC ρ (own.map (·.2))) d = some (c1 ρ own i0 d) := rfl
    refine ⟨Gj, mi, d, wipeC ρ (own.map (·.2)), c1 ρ own i0 d, Sj.wipe _, rx, hbd, fun σ2 S2 l2 f2 => ⟨wipe_eq (l2.trans hwl) fun j hj => f2 j fun z => hj (by rw [List.mem_singleton.mp z]; exact h0), ?_⟩⟩
    obtain ⟨okI, okB⟩ := body d
    refine (?_ : ∃ ρ' T, OkT X R scope ρ' [] T ∧ tT R ρ' T σ2 Hi' _)
    refine ⟨c1 ρ own i0 d, _, okT_nil, Gj, mi, fun b m' => b = true ∧ m' = mi, S2, ⟨rfl, rfl⟩, fun b G3 H3 m3 S3 g3 e3 => ?_⟩
    obtain ⟨rfl, rfl⟩ := e3
    simp only [if_true]
    refine (?_ : ∃ ρ' T, OkI X R scope ρ' (.Name y py) iter1 T ∧ tI R (.Name y py) ρ' T σ2 H3 _)
    refine ⟨c1 ρ own i0 d, fi d, okI, G3, m3, _, S3, hq, fun J1 ds1 G4 H4 m4 S4 g4 W1 q4 => ?_⟩
    have g04 : Grow R.vol G1 H1 G4 H4 := (gj.trans Sj.vh g3).trans S3.vh g4
    have gD4 : G4 Dl = none := g4.new Dl (g3.new Dl gDj (by rw [hDj]; exact fun z => nomatch z)) (by rw [g3.hh Dl _ hnv hDj]; exact fun z => nomatch z)
    have hD4 : H4 Dl = some (.lst vs) := g4.hh Dl _ hnv (g3.hh Dl _ hnv hDj)
    let Pw : Nat → Hp → Prop := fun j H' => ∃ (Gk : Hp) (mk : Nat) (bs : List D) (us : List V), Same G4 Gk ∧ Grow R.vol G1 H1 Gk H' ∧ Sit R σ2 (c1 ρ own i0 d) Gk H' mk ∧ Gk Dl = none ∧ H' Dl = some (.lst us) ∧ RpL Gk us bs ∧ inM (g d) (ds1.drop j) bs (fun as' m2 => outM fi g (ds.drop (i + 1)) as' q m2) mk
    have ownN : ∀ (j : Nat) (es : List D) (l : Addr), (c1 ρ own i0 d)[j]? = some (.own es) → σ2[j]? = some (some (.ref l)) → l ≠ Dl := fun j es l hc hl => by
      have hc : ((wipeC ρ (own.map (·.2))).set i0 (.dat d))[j]? = some (.own es) := hc
      rw [List.getElem?_set] at hc
      by_cases ej : i0 = j
      · rw [if_pos ej] at hc
        split at hc <;> cases hc
      · rw [if_neg ej] at hc
        obtain ⟨a1, a2⟩ := wipeC_own _ _ _ hc
        have a3 := f2 j fun z => ej (List.mem_singleton.mp z).symm
        rw [a3] at hl
        have a4 := (wipe_some hl).1
        obtain ⟨l', ws, b1, _, _, _, b5, _⟩ := S1.cell j _ a1
        rw [a4] at b1
        cases b1
        exact fun z => by subst z; rw [b5] at hD; cases hD
    refine ⟨fun j kk H' => kk = ds1.length - j ∧ j ≤ ds1.length ∧ Pw j H', ⟨ds1.length, by omega, Nat.zero_le _, G4, m4, as, vs, Same.refl _, g04, S4, gD4, hD4, rj.mono (g3.gg.trans g4.gg), q4⟩, ?_⟩
    rintro j kk Hk ⟨rfl, hj, Gk, mk, bs, us, s4, gk, Sk, gDk, hDk, rk, hqk⟩
    have smk : Same G4 Hk := s4.trans Sk.gh
    by_cases hlt1 : j < ds1.length
    · refine .inr ⟨W1.go j Hk smk hlt1, Pw (j + 1), fun K' p' => ⟨ds1.length - (j + 1), by omega, rfl, hlt1, p'⟩, fun xw Hk' hy => ?_⟩
      obtain ⟨e, he, hy⟩ := W1.yld j Hk xw Hk' smk hlt1 hy
      have hdrop1 : ds1.drop j = e :: ds1.drop (j + 1) := by
        obtain ⟨a1, a2⟩ := List.getElem?_eq_some_iff.mp he
        rw [List.drop_eq_getElem_cons a1, a2]
      rw [hdrop1] at hqk
      have item1 : ∃ Gl, Same Gk Gl ∧ Grow R.vol G1 H1 Gl Hk' ∧ Sit R σ2 (c1 ρ own i0 d) Gl Hk' mk ∧ Gl Dl = none ∧ Hk' Dl = some (.lst us) ∧ RpL Gl us bs ∧ ItR (.Name y py) Gl xw e := by
        rcases hy with ⟨rfl, rx⟩ | ⟨⟨_, _, _, tt⟩, p, ws, es, rfl, hp, rfl, rfl, rx⟩
        · exact ⟨Gk, Same.refl _, gk, Sk, gDk, hDk, rk, .inl (rx.mono s4)⟩
        · cases tt
      obtain ⟨Gl, skl, gl, Sl, gDl, hDl, rl, rx1⟩ := item1
      obtain ⟨Tt, Te, okt, oke, turn⟩ := okB e _ mk hqk
      have hwl1 : (wipe σ2 [i1]).length = σ2.length := wipe_length _ _
      refine ⟨Gl, mk, e, wipeC (c1 ρ own i0 d) [i1], c2 ρ own i0 i1 d e, Sl.wipe _, rx1, rfl, fun σ3 S3' l3 f3 => ⟨wipe_eq (l3.trans hwl1) fun j hj => f3 j hj, c2 ρ own i0 i1 d e, Tt, okt, Gl, mk, _, S3', turn, fun b G6 H6 m6 S6 g6 q6 => ?_⟩⟩
      have gD6 : G6 Dl = none := g6.new Dl gDl (by rw [hDl]; exact fun z => nomatch z)
      have hD6 : H6 Dl = some (.lst us) := g6.hh Dl _ hnv hDl
      have g06 : Grow R.vol G1 H1 G6 H6 := gl.trans Sl.vh g6
      have S6' : Sit R σ2 (c1 ρ own i0 d) G6 H6 m6 := Sl.grow g6 S6.gh S6.vh S6.jd
      cases b with
      | false =>
        refine (?_ : Pw (j + 1) H6)
        exact ⟨G6, m6, bs, us, (s4.trans skl).trans g6.gg, g06, S6', gD6, hD6, rl.mono g6.gg, q6⟩
      | true =>
        refine (?_ : ∃ ρ' T, OkE X R scope ρ' elt T ∧ tJ R ρ' T σ3 H6 _)
        refine ⟨c2 ρ own i0 i1 d e, Te, oke, G6, m6, _, S6, q6, fun v z G7 H7 m7 S7 g7 r7 q7 => ?_⟩
        obtain ⟨few, q7⟩ := q7
        have gD7 : G7 Dl = none := g7.new Dl gD6 (by rw [hD6]; exact fun z => nomatch z)
        have hD7 : H7 Dl = some (.lst us) := g7.hh Dl _ hnv hD6
        have g07 : Grow R.vol G1 H1 G7 (upd H7 Dl (.lst (us ++ [v]))) := (g06.trans S6.vh g7).back hD
        have S7' : Sit R σ2 (c1 ρ own i0 d) G7 H7 m7 := S6'.grow g7 S7.gh S7.vh S7.jd
        have hlen := (rl.mono (g6.gg.trans g7.gg)).length
        refine ⟨us, hD7, by omega, (?_ : Pw (j + 1) _)⟩
        exact ⟨G7, m7, bs ++ [z], us ++ [v], ((s4.trans skl).trans g6.gg).trans g7.gg, g07, S7'.updN gD7 hnv ownN, gD7, upd_same, (rl.mono (g6.gg.trans g7.gg)).append (.cons r7 .nil), q7⟩
    · have e1 : j = ds1.length := by omega
      subst e1
      refine .inl ⟨W1.stop Hk smk, (?_ : Pv (i + 1) Hk)⟩
      rw [List.drop_length] at hqk
      exact ⟨Gk, mk, bs, us, gk, S1.grow gk Sk.gh Sk.vh Sk.jd, gDk, hDk, rk, hqk⟩
  · have e : i = ds.length := by omega
    subst e
    refine .inl ⟨W.stop Hi sm, ?_⟩
    rw [List.drop_length] at hq
    exact k Dl vs as Gi Hi mi S' (g1.trans S1.vh gi) (free_of g1 S1.vh hD) gD hDi r hq
end
def inO (g : D → Option (Option D)) : List D → List D → Option (List D)
  | [], as => some as
  | d :: ds, as => (g d).bind fun o => match o with | some y => if as.length < sizeLine then inO g ds (as ++ [y]) else none | none => inO g ds as
def outO (fi : D → Option (List D)) (g : D → D → Option (Option D)) : List D → List D → Option (List D)
  | [], as => some as
  | d :: ds, as => (fi d).bind fun ds1 => (inO (g d) ds1 as).bind fun as' => outO fi g ds as'
def lc2O (oi : Option (List D)) (fi : D → Option (List D)) (g : D → D → Option (Option D)) : Option (List D) := oi.bind fun ds => outO fi g ds []
theorem inO_M {g : D → Option (Option D)} : ∀ {ds as r : List D} {q : List D → Nat → Prop} {m : Nat}, inO g ds as = some r → q r m → inM (fun d => lift (g d)) ds as q m
  | [], as, r, q, m, h, hq => by cases h; exact hq
  | d :: ds, as, r, q, m, h, hq => by
    obtain ⟨o, h1, h⟩ := Option.bind_eq_some_iff.mp h
    refine ⟨o, h1, ?_⟩
    cases o with
    | none => exact inO_M (g := g) h hq
    | some y =>
      by_cases z : as.length < sizeLine
      · simp only [if_pos z] at h
        exact ⟨z, inO_M (g := g) h hq⟩
      · simp only [if_neg z] at h
        cases h
theorem outO_M {fi : D → Option (List D)} {g : D → D → Option (Option D)} : ∀ {ds as r : List D} {q : List D → Nat → Prop} {m : Nat}, outO fi g ds as = some r → q r m → outM (fun d => lift (fi d)) (fun d e => lift (g d e)) ds as q m
  | [], as, r, q, m, h, hq => by cases h; exact hq
  | d :: ds, as, r, q, m, h, hq => by
    obtain ⟨ds1, h1, h⟩ := Option.bind_eq_some_iff.mp h
    obtain ⟨as', h2, h⟩ := Option.bind_eq_some_iff.mp h
    exact ⟨ds1, h1, inO_M (g := g d) h2 (outO_M h hq)⟩
theorem lc2O_M {oi : Option (List D)} {fi : D → Option (List D)} {g : D → D → Option (Option D)} {q : List D → Nat → Prop} {m : Nat} (h : lift (lc2O oi fi g) q m) : lc2M (lift oi) (fun d => lift (fi d)) (fun d e => lift (g d e)) q m := by
  obtain ⟨r, h, hq⟩ := h
  obtain ⟨ds, h1, h⟩ := Option.bind_eq_some_iff.mp h
  exact ⟨ds, h1, outO_M h hq⟩
section
variable {X : Cx} {R : Res} {ρ : List Cell} {iter elt iter1 : Expr} {ifs1 : List Expr} {scope : Scope} {own : List (Str × Nat)} {pos px py : Pos} {i0 i1 k : Nat} {x y : Str}
theorem jle_lcc {oi : Option (List D)} {fi : D → Option (List D)} {ot : D → D → Option Bool} {oe : D → D → Option D} (B : Bx X k) (hi : JIE X R ρ (.Name x px) iter oi) (ok : BlkOk X.N X.env.scope scope own)
    (hg : ∀ (s : Shared) (H : Hp) (C : Addr) (cl : List (Str × Addr)) (fp : List Addr), JG (X.blk s H scope (compEnvC scope cl C X.env) fp) R (.Name x px) [i0] (bd1 i0))
    (hg1 : ∀ (s : Shared) (H : Hp) (C : Addr) (cl : List (Str × Addr)) (fp : List Addr), JG (X.blk s H scope (compEnvC scope cl C X.env) fp) R (.Name y py) [i1] (bd1 i1))
    (hI : ∀ d, OkI X R scope (c1 ρ own i0 d) (.Name y py) iter1 (lift (fi d))) (ht : ∀ d e, OkTE X R scope (c2 ρ own i0 i1 d e) ifs1 (ot d e)) (he : ∀ d e, OkEE X R scope (c2 ρ own i0 i1 d e) elt (oe d e))
    (h0 : i0 ∈ own.map (·.2) := by decide) (h1 : i1 ∈ own.map (·.2) := by decide) (hs : ∀ x, foldedSetIterable iter X.env x = pure x := by intro _; rfl) (hs1 : ∀ env x, foldedSetIterable iter1 env x = pure x := by intro _ _; rfl) :
    JLE X R ρ (.ListComp elt [⟨.Name x px, iter, [], 0⟩, ⟨.Name y py, iter1, ifs1, 0⟩] scope pos) (lc2O oi fi fun a b => turnO (ot a b) (oe a b)) :=
  JL.imp (T := lc2M (lift oi) (fun d => lift (fi d)) (fun d e => lift (turnO (ot d e) (oe d e)))) (PE.imp (pe_lc2 B.hc B.nd hi ok (fun i hi => by rw [List.mem_singleton.mp hi]; exact h1) hg ttAny_ok tiAny_ok hg1 ttAny_ok teAny_ok hs hs1)
    (lc2_read h0 h1 fun d => ⟨hI d, fun e q m h => ⟨_, _, ht d e, he d e, turnO_M h⟩⟩)) fun _ _ => lc2O_M
theorem ste_lcc {oi : Option (List D)} {fi : D → Option (List D)} {ot : D → D → Option Bool} {oe : D → D → Option D} {j : Nat} {v : Str} {pv spos : Pos} (B : Bx X k) (hi : JIE X R ρ (.Name x px) iter oi) (ok : BlkOk X.N X.env.scope scope own)
    (hg : ∀ (s : Shared) (H : Hp) (C : Addr) (cl : List (Str × Addr)) (fp : List Addr), JG (X.blk s H scope (compEnvC scope cl C X.env) fp) R (.Name x px) [i0] (bd1 i0))
    (hg1 : ∀ (s : Shared) (H : Hp) (C : Addr) (cl : List (Str × Addr)) (fp : List Addr), JG (X.blk s H scope (compEnvC scope cl C X.env) fp) R (.Name y py) [i1] (bd1 i1))
    (hI : ∀ d, OkI X R scope (c1 ρ own i0 d) (.Name y py) iter1 (lift (fi d))) (ht : ∀ d e, OkTE X R scope (c2 ρ own i0 i1 d e) ifs1 (ot d e)) (he : ∀ d e, OkEE X R scope (c2 ρ own i0 i1 d e) elt (oe d e))
    (hy : X.N[j]? = some v := by rfl) (hyl : X.env.scope.names.lookup v = some .local := by rfl) (hsw : swapsWith (.ListComp elt [⟨.Name x px, iter, [], 0⟩, ⟨.Name y py, iter1, ifs1, 0⟩] scope pos) (some (.Name v pv)) spos.line X.env = pure true := by rfl)
    (h0 : i0 ∈ own.map (·.2) := by decide) (h1 : i1 ∈ own.map (·.2) := by decide) (hs : ∀ x, foldedSetIterable iter X.env x = pure x := by intro _; rfl) (hs1 : ∀ env x, foldedSetIterable iter1 env x = pure x := by intro _ _; rfl) :
    PS X (.Assign [.Name v pv] (.ListComp elt [⟨.Name x px, iter, [], 0⟩, ⟨.Name y py, iter1, ifs1, 0⟩] scope pos) spos) (tAsg (tL R ρ (lift (lc2O oi fi fun a b => turnO (ot a b) (oe a b)))) (gName j)) :=
  PS.tl (T := lc2M (lift oi) (fun d => lift (fi d)) (fun d e => lift (turnO (ot d e) (oe d e)))) (⟨fun pins s σ H Dn I h => (ps_setLc2 B.hc B.nd hy hyl hsw hi ok (fun i hi => by rw [List.mem_singleton.mp hi]; exact h1) hg ttAny_ok tiAny_ok hg1 ttAny_ok teAny_ok hs hs1).run pins s σ H Dn I (lc2_read h0 h1 (fun d => ⟨hI d, fun e q m h => ⟨_, _, ht d e, he d e, turnO_M h⟩⟩) σ H _ h)⟩) fun _ _ => lc2O_M
end
end Dl

set_option Elab.async false
set_option linter.all false
set_option autoImplicit false
set_option maxRecDepth 100000
set_option maxHeartbeats 1000000
namespace Dl
open PySem L2
/-! ### pieces, hanging lots, loose ties, a tie more -/
@[irreducible] def m_pieces (web1 lot2 : D) : Option (D) :=
  (C1 dTup (((lcO ((some lot2).bind dItems) fun place3 => turnO (some true) (C3 m_piece_of (some web1) (some lot2) (some place3))).bind dSK).map PyData.list))
@[irreducible] def m_hangs (web1 lot2 : D) : Option (D) :=
  (andV (b2 dNe (some lot2) ((some []).map PyData.tuple)) (b2 dEq (C1 dLen (C3 m_piece_of (some web1) (some lot2) (b2 dIx (some lot2) (some (PyData.int 0))))) (C1 dLen (some lot2))))
@[irreducible] def m_with_tie (web1 a2 b3 : D) : Option (D) :=
  ((consO (b2 dIx (some web1) (some (PyData.int 0))) (consO (C1 dTup (((lcO ((b2 dAdd (b2 dIx (some web1) (some (PyData.int 1))) ((consO ((consO (C2 dMin2 (some a2) (some b3)) (consO (C2 dMax2 (some a2) (some b3)) (some []))).map PyData.tuple) (some [])).map PyData.tuple)).bind dItems) fun tie4 => turnO (some true) (some tie4)).bind dSK).map PyData.list)) (some []))).map PyData.tuple)
@[irreducible] def m_loose_ties (web1 : D) : Option (D) :=
  (((C1 dItems (C1 m_every_place (some web1))).map PyData.list).bind fun places2 => (C1 dTup ((lc2O ((some places2).bind dItems) (fun a3 => ((some places2).bind dItems)) fun a3 b4 => turnO (andO ((b2 dLt (some a3) (some b4)).bind asB) (((C3 m_are_tied (some web1) (some a3) (some b4)).bind asT).map (!·))) ((consO (some a3) (consO (some b4) (some []))).map PyData.tuple)).map PyData.list)))
@[irreducible] def m__law_pieces (web1 lot2 : D) : Option (D) :=
  (C1 dTup ((C1 dSS ((lcO ((some lot2).bind dItems) fun place3 => turnO (some true) (C3 m__law_piece (some web1) (some lot2) (some place3))).map PyData.list)).map PyData.list))
@[irreducible] def m__law_hangs (web1 lot2 : D) : Option (D) :=
  (b2 dEq (C1 dLen (C2 m__law_pieces (some web1) (some lot2))) (some (PyData.int 1)))
@[irreducible] def m__law_full (n1 : D) : Option (D) :=
  (((some []).map PyData.list).bind fun ties2 => ((C1 (fun x => dRange [x]) (some n1)).bind fun ds => forO (S := D) (fun s3 a7 kk4 => ((b2 dAdd (some s3) ((lcO (C2 (fun x y => dRange [x, y]) (b2 dAdd (some a7) (some (PyData.int 1))) (some n1)) fun b9 => turnO (some true) ((consO (some a7) (consO (some b9) (some []))).map PyData.tuple)).map PyData.list)).bind fun ties8 => (kk4 ties8))) ds ties2 fun s6 => ((consO (some n1) (consO (C1 dTup (some s6)) (some []))).map PyData.tuple)))
def rowN (xs : List Nat) : List Int := xs.map fun (i : Nat) => (i : Int)
theorem tupD_rowN (xs : List Nat) : tupD (rowN xs) = .tuple (ofN xs) := by unfold tupD rowN ofN; rw [List.map_map]; rfl
theorem rowN_inj {xs ys : List Nat} (h : rowN xs = rowN ys) : xs = ys := by
  unfold rowN at h
  exact (List.map_inj_right (fun a b e => by omega)).mp h
noncomputable def rowsP (n : Nat) (ts : List (Nat × Nat)) (lot : List Nat) : List (List Int) := lot.map fun p => rowN (piece n ts lot p)
noncomputable def pcs (n : Nat) (ts : List (Nat × Nat)) (lot : List Nat) : List D := (ssT (rowsP n ts lot)).map tupD
section
variable {n : Nat} {ts : List (Nat × Nat)} {lot : List Nat}
theorem piece_self {p : Nat} (hp : p < n) : p ∈ piece n ts lot p := (piece_mem hp).mpr .base
theorem rows_ne (hl : ∀ p ∈ lot, p < n) : ((rowsP n ts lot).all fun l => !l.isEmpty) = true := by
  rw [List.all_eq_true]
  intro l h
  obtain ⟨p, hp, rfl⟩ := List.mem_map.mp h
  have := piece_self (n := n) (ts := ts) (lot := lot) (hl p hp)
  cases e : piece n ts lot p with
  | nil => rw [e] at this; cases this
  | cons a b => rfl
theorem rows_data : (rowsP n ts lot).map tupD = lot.map fun p => PyData.tuple (ofN (piece n ts lot p)) := by
  unfold rowsP
  rw [List.map_map]
  exact List.map_congr_left fun p _ => tupD_rowN _
theorem pieces_eval (hn : n < 5000) (hl : ∀ p ∈ lot, p < n) (hz : lot.length < 100000) : C2 m_pieces (some (webD n ts)) (some (.tuple (ofN lot))) = some (.tuple (pcs n ts lot)) := by
  rw [c2_some]
  unfold m_pieces
  have e := lcO_map (oi := (some (PyData.tuple (ofN lot))).bind dItems) (f := fun place3 => C3 m_piece_of (some (webD n ts)) (some (.tuple (ofN lot))) (some place3)) (g := fun (i : Nat) => PyData.int i) (h := fun p => PyData.tuple (ofN (piece n ts lot p))) lot rfl (by rw [sizeLine_eq]; omega) fun p hp => pieceOf_eval hn (hl p hp)
  rw [e]
  rw [Option.bind_some, ← rows_data]
  unfold dSK
  rw [rowsD_map, Option.bind_some, if_pos (rows_ne hl)]
  rfl
theorem lawPieces_eval (W : Wb n ts) (hl : ∀ p ∈ lot, p < n) (hz : lot.length < 76) : C2 m__law_pieces (some (webD n ts)) (some (.tuple (ofN lot))) = some (.tuple (pcs n ts lot)) := by
  rw [c2_some]
  unfold m__law_pieces
  have e0 := lcO_map (oi := (some (PyData.tuple (ofN lot))).bind dItems) (f := fun place3 => C3 m__law_piece (some (webD n ts)) (some (.tuple (ofN lot))) (some place3)) (g := fun (i : Nat) => PyData.int i) (h := fun p => PyData.tuple (ofN (piece n ts lot p))) lot rfl (by rw [sizeLine_eq]; omega) fun p hp => lawPiece_eval W (hl p hp) (by omega)
  rw [e0]
  rw [Option.map_some, ← rows_data]
  have e : dSS (.list ((rowsP n ts lot).map tupD)) = some (pcs n ts lot) := by
    cases lot with
    | nil =>
      have z1 : ssT ([] : List (List Int)) = [] := List.eq_nil_iff_forall_not_mem.mpr fun k => by rw [ssT_mem]; exact List.not_mem_nil
      have z2 : ssI ([] : List Int) = [] := List.eq_nil_iff_forall_not_mem.mpr fun k => by rw [ssI_mem]; exact List.not_mem_nil
      unfold dSS pcs rowsP
      simp only [List.map_nil, intsOf]
      rw [if_pos (by decide), z1, z2]
      rfl
    | cons p r =>
      have e1 : intsOf ((rowsP n ts (p :: r)).map tupD) = none := rfl
      unfold dSS
      simp only [e1]
      rw [rowsD_map, Option.bind_some, if_pos ⟨by unfold rowsP; rw [List.length_map]; exact hz, rows_ne hl⟩]
      rfl
  rw [c1_some, e]
  rfl
/-! hanging -/
theorem Rch.trans {a b c : Nat} (h1 : Rch n ts lot a b) (h2 : Rch n ts lot b c) : Rch n ts lot a c := by
  induction h2 with
  | base => exact h1
  | step _ h3 h4 ih => exact .step ih h3 h4
theorem Rch.symm (W : Wb n ts) {p x : Nat} (hp : p ∈ lot) (h : Rch n ts lot p x) : Rch n ts lot x p := by
  induction h with
  | base => exact .base
  | @step x y hx h1 h2 ih =>
    have hxl : x ∈ lot := (List.mem_cons.mp hx.mem).elim (fun e => e ▸ hp) id
    exact (Rch.step .base (nbr_symm W h1) hxl).trans ih
def Hangs (n : Nat) (ts : List (Nat × Nat)) (lot : List Nat) : Prop := lot ≠ [] ∧ ∀ p ∈ lot, ∀ q ∈ lot, Rch n ts lot p q
theorem piece_sub {p : Nat} (hp : p ∈ lot) (hl : ∀ p ∈ lot, p < n) : ∀ x ∈ piece n ts lot p, x ∈ lot := fun x hx =>
  (List.mem_cons.mp ((piece_mem (hl p hp)).mp hx).mem).elim (fun e => e ▸ hp) id
theorem hang_len (W : Wb n ts) (ha : Asc lot) (hl : ∀ p ∈ lot, p < n) {p : Nat} (hp : p ∈ lot) : (piece n ts lot p).length = lot.length ↔ Hangs n ts lot := by
  constructor
  · intro h
    have all : ∀ q ∈ lot, q ∈ piece n ts lot p := fun q hq => Classical.byContradiction fun hn => by
      have := nat_nodup_len (q :: piece n ts lot p) lot (List.nodup_cons.mpr ⟨hn, asc_nodup (piece_asc _ _ _ _)⟩) fun z hz => by
        rcases List.mem_cons.mp hz with rfl | hz
        · exact hq
        · exact piece_sub hp hl z hz
      rw [List.length_cons] at this
      omega
    have r : ∀ q ∈ lot, Rch n ts lot p q := fun q hq => (piece_mem (hl p hp)).mp (all q hq)
    exact ⟨fun e => (by rw [e] at hp; cases hp), fun a ha b hb => ((r a ha).symm W hp).trans (r b hb)⟩
  · rintro ⟨_, h⟩
    have : piece n ts lot p = lot := asc_one (piece_asc _ _ _ _) ha fun z => ⟨piece_sub hp hl z, fun hz => (piece_mem (hl p hp)).mpr (h p hp z hz)⟩
    rw [this]
theorem ss_one_len {ls : List (List Int)} : (ssT ls).length = 1 ↔ ls ≠ [] ∧ ∀ a ∈ ls, ∀ b ∈ ls, a = b := by
  constructor
  · intro h
    obtain ⟨c, hc⟩ := List.length_eq_one_iff.mp h
    have m : ∀ a, a ∈ ls ↔ a = c := fun a => by rw [← ssT_mem, hc, List.mem_singleton]
    exact ⟨fun e => (by have := (m c).mpr rfl; rw [e] at this; cases this), fun a ha b hb => ((m a).mp ha).trans ((m b).mp hb).symm⟩
  · rintro ⟨h1, h2⟩
    obtain ⟨c, hc⟩ := List.exists_mem_of_ne_nil ls h1
    have : [c] = ssT ls := ssT_one (List.pairwise_singleton _ _) fun k => by
      rw [List.mem_singleton]
      exact ⟨fun e => e ▸ hc, fun hk => h2 k hk c hc⟩
    rw [← this]
    rfl
theorem hang_pieces (W : Wb n ts) (hl : ∀ p ∈ lot, p < n) : (ssT (rowsP n ts lot)).length = 1 ↔ Hangs n ts lot := by
  rw [ss_one_len]
  unfold rowsP
  constructor
  · rintro ⟨h1, h2⟩
    refine ⟨fun e => h1 (by rw [e]; rfl), fun a ha b hb => ?_⟩
    have e := rowN_inj (h2 _ (List.mem_map_of_mem ha) _ (List.mem_map_of_mem hb))
    exact (piece_mem (hl a ha)).mp (e ▸ piece_self (hl b hb))
  · rintro ⟨h1, h2⟩
    refine ⟨fun e => h1 (List.map_eq_nil_iff.mp e), fun x hx y hy => ?_⟩
    obtain ⟨a, ha, rfl⟩ := List.mem_map.mp hx
    obtain ⟨b, hb, rfl⟩ := List.mem_map.mp hy
    have : piece n ts lot a = piece n ts lot b := asc_one (piece_asc _ _ _ _) (piece_asc _ _ _ _) fun z => by
      rw [piece_mem (hl a ha), piece_mem (hl b hb)]
      exact ⟨fun h => (h2 b hb a ha).trans h, fun h => (h2 a ha b hb).trans h⟩
    rw [this]
open Classical in
theorem hangs_eval (W : Wb n ts) (ha : Asc lot) (hl : ∀ p ∈ lot, p < n) : C2 m_hangs (some (webD n ts)) (some (.tuple (ofN lot))) = some (.bool (decide (Hangs n ts lot))) := by
  have hn := W.hi
  rw [c2_some]
  unfold m_hangs
  cases lot with
  | nil =>
    have : ¬ Hangs n ts [] := fun h => h.1 rfl
    rw [decide_eq_false this]
    have e : b2 dNe (some (PyData.tuple (ofN []))) ((some []).map PyData.tuple) = some (.bool false) := by
      show dNe (.tuple []) (.tuple []) = _
      unfold dNe
      rw [if_pos (by simp [eqOk, PyData.plain, PyData.plainAll, PyData.depth, PyData.depthAll])]
      simp [PyData.eqv, PyData.eqvAll]
    rw [e]
    rfl
  | cons p r =>
    have e : b2 dNe (some (PyData.tuple (ofN (p :: r)))) ((some []).map PyData.tuple) = some (.bool true) := by
      show dNe (.tuple (ofN (p :: r))) (.tuple []) = _
      unfold dNe
      have ok : eqOk (.tuple (ofN (p :: r))) (.tuple []) = true := by
        have pl : PyData.plainAll (ofN (p :: r)) = true := by
          have e : ofN (p :: r) = (rowN (p :: r)).map PyData.int := by unfold ofN rowN; rw [List.map_map]; rfl
          rw [e]
          exact plain_ints _
        simp [eqOk, PyData.plain, pl, PyData.plainAll, PyData.depth, PyData.depthAll]
      rw [if_pos ok]
      simp [PyData.eqv, PyData.eqvAll, ofN]
    have e0 : b2 dIx (some (.tuple (ofN (p :: r)))) (some (PyData.int 0)) = some (.int (p : Nat)) := ix_tup (xs := p :: r) (i := 0) (by simp)
    rw [e, e0, pieceOf_eval (by omega) (hl p List.mem_cons_self), len_tup, len_tup, eq_nat]
    have := hang_len W ha hl (p := p) List.mem_cons_self
    show some (PyData.bool _) = _
    congr 2
    rw [Bool.eq_iff_iff, decide_eq_true_iff, decide_eq_true_iff]
    exact this
open Classical in
theorem lawHangs_eval (W : Wb n ts) (hl : ∀ p ∈ lot, p < n) (hz : lot.length < 76) : C2 m__law_hangs (some (webD n ts)) (some (.tuple (ofN lot))) = some (.bool (decide (Hangs n ts lot))) := by
  rw [c2_some]
  unfold m__law_hangs
  rw [lawPieces_eval W hl hz]
  have e : C1 dLen (some (PyData.tuple (pcs n ts lot))) = some (.int ((ssT (rowsP n ts lot)).length : Nat)) := by
    show some (PyData.int ((pcs n ts lot).length : Nat)) = _
    unfold pcs
    rw [List.length_map]
  rw [e]
  refine (eq_nat (ssT (rowsP n ts lot)).length 1).trans ?_
  congr 2
  rw [Bool.eq_iff_iff, decide_eq_true_iff, decide_eq_true_iff]
  exact hang_pieces W hl
end
theorem inO_eval {α : Type} {G : D → Option (Option D)} {p : α → Bool} {g h : α → D} : ∀ (ys : List α) (as : List D), as.length + ys.length < sizeLine → (∀ y ∈ ys, G (g y) = some (if p y = true then some (h y) else none)) → inO G (ys.map g) as = some (as ++ (ys.filter p).map h)
  | [], as, _, _ => by simp [inO]
  | y :: ys, as, hl, hf => by
    rw [List.length_cons] at hl
    have e := hf y List.mem_cons_self
    show (G (g y)).bind _ = _
    rw [e]
    by_cases hp : p y = true
    · rw [if_pos hp, List.filter_cons_of_pos hp]
      show (if as.length < sizeLine then inO G (ys.map g) (as ++ [h y]) else none) = _
      rw [if_pos (by omega), inO_eval ys _ (by rw [List.length_append, List.length_singleton]; omega) fun z hz => hf z (List.mem_cons_of_mem _ hz)]
      simp
    · rw [if_neg hp, List.filter_cons_of_neg hp]
      show inO G (ys.map g) as = _
      exact inO_eval ys as (by omega) fun z hz => hf z (List.mem_cons_of_mem _ hz)
theorem outO_eval {α β : Type} {fi : D → Option (List D)} {G : D → D → Option (Option D)} {p : α → β → Bool} {gx : α → D} {gy : β → D} {h : α → β → D} (ys : List β) : ∀ (xs : List α) (as : List D), as.length + xs.length * ys.length < sizeLine → (∀ x ∈ xs, fi (gx x) = some (ys.map gy)) → (∀ x ∈ xs, ∀ y ∈ ys, G (gx x) (gy y) = some (if p x y = true then some (h x y) else none)) →
    outO fi G (xs.map gx) as = some (as ++ xs.flatMap fun x => (ys.filter (p x)).map (h x))
  | [], as, _, _, _ => by simp [outO]
  | x :: xs, as, hl, hi, hf => by
    rw [List.length_cons, Nat.add_mul, Nat.one_mul] at hl
    show (fi (gx x)).bind _ = _
    rw [hi x List.mem_cons_self, Option.bind_some, inO_eval (p := p x) (h := h x) ys as (by omega) (hf x List.mem_cons_self), Option.bind_some]
    have hlen := List.length_filter_le (p x) ys
    rw [outO_eval ys xs _ (by rw [List.length_append, List.length_map]; omega) (fun z hz => hi z (List.mem_cons_of_mem _ hz)) fun z hz => hf z (List.mem_cons_of_mem _ hz)]
    simp
section
variable {n : Nat} {ts : List (Nat × Nat)}
def freeP (n : Nat) (ts : List (Nat × Nat)) (a : Nat) : List (Nat × Nat) := ((List.range n).filter fun b => decide (a < b) && !adj ts a b).map fun b => (a, b)
def looseP (n : Nat) (ts : List (Nat × Nat)) : List (Nat × Nat) := (List.range n).flatMap (freeP n ts)
theorem loose_eval (hn : n ≤ 100) : C1 m_loose_ties (some (webD n ts)) = some (.tuple ((looseP n ts).map tieD)) := by
  rw [c1_some]
  unfold m_loose_ties
  rw [places_eval n ts (by omega)]
  have e0 : C1 dItems (some (PyData.tuple (ofN (List.range n)))) = some (ofN (List.range n)) := rfl
  rw [e0, Option.map_some, Option.bind_some]
  have e := outO_eval (fi := fun a3 => (some (PyData.list (ofN (List.range n)))).bind dItems) (G := fun a3 b4 => turnO (andO ((b2 dLt (some a3) (some b4)).bind asB) (((C3 m_are_tied (some (webD n ts)) (some a3) (some b4)).bind asT).map (!·))) ((consO (some a3) (consO (some b4) (some []))).map PyData.tuple))
    (p := fun a b => decide (a < b) && !adj ts a b) (gx := fun (i : Nat) => PyData.int i) (gy := fun (i : Nat) => PyData.int i) (h := fun a b => tieD (a, b)) (List.range n) (List.range n) [] (by
      have : n * n ≤ 100 * 100 := Nat.mul_le_mul hn hn
      rw [List.length_nil, List.length_range, sizeLine_eq]
      omega) (fun _ _ => rfl) fun a _ b _ => by
      show turnO (andO ((b2 dLt (some (PyData.int a)) (some (.int b))).bind asB) (((C3 m_are_tied (some (webD n ts)) (some (.int a)) (some (.int b))).bind asT).map (!·))) _ = _
      rw [lt_nat, tied_eval, asB_bool, asT_bool, Option.map_some, andO_some]
      cases (decide (a < b) && !adj ts a b) <;> rfl
  have e2 : lc2O ((some (PyData.list (ofN (List.range n)))).bind dItems) (fun a3 => (some (PyData.list (ofN (List.range n)))).bind dItems) (fun a3 b4 => turnO (andO ((b2 dLt (some a3) (some b4)).bind asB) (((C3 m_are_tied (some (webD n ts)) (some a3) (some b4)).bind asT).map (!·))) ((consO (some a3) (consO (some b4) (some []))).map PyData.tuple)) = some ((looseP n ts).map tieD) := by
    refine e.trans ?_
    rw [List.nil_append]
    unfold looseP freeP
    rw [List.map_flatMap]
    congr 1
    refine congrArg (fun f => (List.range n).flatMap f) (funext fun a => ?_)
    rw [List.map_map]
    rfl
  rw [e2]
  rfl
theorem loose_step (W : Wb n ts) {a : Nat} (ha : a < n) : ∃ ds, (lcO (C2 (fun x y => dRange [x, y]) (b2 dAdd (some (PyData.int a)) (some (PyData.int 1))) (some (PyData.int (n : Nat)))) fun b31 => turnO ((b2 (dIn true) ((consO (some (PyData.int a)) (consO (some b31) (some []))).map PyData.tuple) (b2 dIx (some (webD n ts)) (some (PyData.int 1)))).bind asB) ((consO (some (PyData.int a)) (consO (some b31) (some []))).map PyData.tuple)) = some ds ∧ ds = (freeP n ts a).map tieD := by
  have hn := W.hi
  have e1 : b2 dAdd (some (PyData.int a)) (some (PyData.int 1)) = some (.int ((a + 1 : Nat) : Int)) := add_nat a 1
  refine ⟨_, lcO_filter (p := fun b => !decide ((a, b) ∈ ts)) (g := fun (i : Nat) => PyData.int i) (h := fun b => tieD (a, b)) ((List.range (n - (a + 1))).map fun i => i + (a + 1)) (by rw [e1]; exact range2_items (by omega) (by omega)) (by rw [List.length_map, List.length_range, sizeLine_eq]; omega) (fun b _ => ?_) fun b _ _ => rfl, ?_⟩
  · rw [web1]
    exact congrArg (·.bind asB) (in_ties a b ts true)
  · have key : ((List.range (n - (a + 1))).map fun i => i + (a + 1)).filter (fun b => !decide ((a, b) ∈ ts)) = (List.range n).filter fun b => decide (a < b) && !adj ts a b := by
      refine asc_one (asc_filter _ ?_) (asc_filter _ (asc_range n)) fun z => ?_
      · exact List.pairwise_map.mpr ((asc_range _).imp fun h => by omega)
      · simp only [List.mem_filter, List.mem_map, List.mem_range, Bool.and_eq_true, decide_eq_true_eq, Bool.not_eq_true', decide_eq_false_iff_not]
        constructor
        · rintro ⟨⟨i, hi, rfl⟩, h⟩
          refine ⟨by omega, by omega, ?_⟩
          unfold adj
          rw [decide_eq_false_iff_not, Nat.min_eq_left (by omega), Nat.max_eq_right (by omega)]
          exact h
        · rintro ⟨h1, h2, h3⟩
          unfold adj at h3
          rw [decide_eq_false_iff_not, Nat.min_eq_left (by omega), Nat.max_eq_right (by omega)] at h3
          exact ⟨⟨z - (a + 1), by omega, by omega⟩, h3⟩
    rw [key]
    unfold freeP
    rw [List.map_map]
    rfl
theorem due_loop (W : Wb n ts) {k : D → Nat → Prop} {m : Nat} : ∀ (xs : List Nat) (acc : List D), (∀ x ∈ xs, x < n) → acc.length + xs.length * 12 < 100000 → k (.list (acc ++ (xs.flatMap (freeP n ts)).map tieD)) m →
    forK (S := D) (fun s25 a29 kk26 => ((lift (b2 dAdd (some s25) ((lcO (C2 (fun x y => dRange [x, y]) (b2 dAdd (some a29) (some (PyData.int 1))) (some (PyData.int (n : Nat)))) fun b31 => turnO ((b2 (dIn true) ((consO (some a29) (consO (some b31) (some []))).map PyData.tuple) (b2 dIx (some (webD n ts)) (some (PyData.int 1)))).bind asB) ((consO (some a29) (consO (some b31) (some []))).map PyData.tuple)).map PyData.list))) fun due30 => (kk26 due30))) (ofN xs) (.list acc) k m
  | [], acc, _, _, hk => by
    have e : acc ++ (([] : List Nat).flatMap (freeP n ts)).map tieD = acc := by simp
    rw [e] at hk
    exact hk
  | x :: xs, acc, hx, hl, hk => by
    rw [List.length_cons] at hl
    have hn := W.hi
    obtain ⟨ds, e1, e2⟩ := loose_step W (hx x List.mem_cons_self)
    have hlen : ds.length ≤ 12 := by
      rw [e2, List.length_map]
      unfold freeP
      rw [List.length_map]
      have := List.length_filter_le (fun b => decide (x < b) && !adj ts x b) (List.range n)
      rw [List.length_range] at this
      omega
    rw [show ofN (x :: xs) = PyData.int x :: ofN xs from rfl, forK_cons]
    refine lift_of (a := PyData.list (acc ++ ds)) ?_ ?_
    · rw [e1]
      exact add_lists acc ds (by rw [sizeLine_eq]; omega)
    · refine due_loop W xs (acc ++ ds) (fun y hy => hx y (List.mem_cons_of_mem _ hy)) (by rw [List.length_append]; omega) ?_
      rw [e2, List.append_assoc, ← List.map_append, ← List.flatMap_cons]
      exact hk
end
section
variable {n : Nat} {ts : List (Nat × Nat)}
theorem add_tups (xs ys : List D) (h : xs.length + ys.length ≤ sizeLine) : b2 dAdd (some (.tuple xs)) (some (.tuple ys)) = some (.tuple (xs ++ ys)) := if_pos h
theorem rows_ties (ps : List (Nat × Nat)) : ps.map tieD = (ps.map rowI).map tupD := by rw [List.map_map]; rfl
theorem withTie_eval (W : Wb n ts) (a b : Nat) : C3 m_with_tie (some (webD n ts)) (some (.int a)) (some (.int b)) = some (webD n (ordP (ts ++ [(min a b, max a b)]))) := by
  have hf := W.few
  rw [c3_some]
  unfold m_with_tie
  rw [web0, web1, min2_nat, max2_nat]
  have e1 : (consO ((consO (some (PyData.int ((min a b : Nat) : Int))) (consO (some (PyData.int ((max a b : Nat) : Int))) (some []))).map PyData.tuple) (some [])).map PyData.tuple = some (.tuple ([(min a b, max a b)].map tieD)) := rfl
  rw [e1, add_tups _ _ (by rw [List.length_map, sizeLine_eq]; simp; omega), items_tup, ← List.map_append]
  have e2 := lcO_map (oi := some ((ts ++ [(min a b, max a b)]).map tieD)) (f := fun d => some d) (g := tieD) (h := tieD) (ts ++ [(min a b, max a b)]) rfl (by rw [List.length_append, sizeLine_eq]; simp; omega) fun _ _ => rfl
  rw [e2, Option.bind_some]
  have e3 : dSK ((ts ++ [(min a b, max a b)]).map tieD) = some ((ordP (ts ++ [(min a b, max a b)])).map tieD) := by
    rw [rows_ties, rows_ties]
    unfold dSK
    rw [rowsD_map, Option.bind_some, if_pos, ssT_pairs]
    rw [List.all_map, List.all_eq_true]
    intro q _
    rfl
  rw [e3]
  rfl
theorem pairs_one {ps qs : List (Nat × Nat)} (h1 : ps.Pairwise fun p q => p.1 < q.1 ∨ (p.1 = q.1 ∧ p.2 < q.2)) (h2 : qs.Pairwise fun p q => p.1 < q.1 ∨ (p.1 = q.1 ∧ p.2 < q.2)) (h : ∀ z, z ∈ ps ↔ z ∈ qs) : ps = qs :=
  strict_one (fun a b h1 h2 => by omega) h1 h2 h
theorem more_tie (W : Wb n ts) {a b : Nat} (h : a ≠ b) : tiesOf (ts ++ [(a, b)]) = ordP (ts ++ [(min a b, max a b)]) := by
  refine pairs_one (ordP_asc _) (ordP_asc _) fun z => ?_
  obtain ⟨x, y⟩ := z
  rw [tiesOf_mem, ordP_mem]
  simp only [List.mem_append, List.mem_singleton, Prod.mk.injEq]
  constructor
  · rintro ⟨hxy, (h1 | ⟨rfl, rfl⟩) | h1 | ⟨rfl, rfl⟩⟩
    · exact .inl h1
    · exact .inr ⟨by omega, by omega⟩
    · have := (W.ord _ h1).1
      simp only at this
      omega
    · exact .inr ⟨by omega, by omega⟩
  · rintro (h1 | ⟨h1, h2⟩)
    · exact ⟨(W.ord _ h1).1, .inl (.inl h1)⟩
    · refine ⟨by omega, ?_⟩
      rcases Nat.lt_or_gt_of_ne h with hlt | hlt
      · exact .inl (.inr ⟨by omega, by omega⟩)
      · exact .inr (.inr ⟨by omega, by omega⟩)
/-! the web with all ties -/
def fullRow (n a : Nat) : List (Nat × Nat) := ((List.range (n - (a + 1))).map fun i => i + (a + 1)).map fun b => (a, b)
def fullT (n : Nat) : List (Nat × Nat) := (List.range n).flatMap (fullRow n)
theorem full_row (hn : n < 1000) {a : Nat} (ha : a < n) : (lcO (C2 (fun x y => dRange [x, y]) (b2 dAdd (some (PyData.int a)) (some (PyData.int 1))) (some (PyData.int (n : Nat)))) fun b9 => turnO (some true) ((consO (some (PyData.int a)) (consO (some b9) (some []))).map PyData.tuple)) = some ((fullRow n a).map tieD) := by
  have e1 : b2 dAdd (some (PyData.int a)) (some (PyData.int 1)) = some (.int ((a + 1 : Nat) : Int)) := add_nat a 1
  have e := lcO_map (oi := C2 (fun x y => dRange [x, y]) (b2 dAdd (some (PyData.int a)) (some (PyData.int 1))) (some (PyData.int (n : Nat)))) (f := fun b9 => (consO (some (PyData.int a)) (consO (some b9) (some []))).map PyData.tuple) (g := fun (i : Nat) => PyData.int i) (h := fun b => tieD (a, b)) ((List.range (n - (a + 1))).map fun i => i + (a + 1)) (by rw [e1]; exact range2_items (by omega) (by omega)) (by rw [List.length_map, List.length_range, sizeLine_eq]; omega) fun b _ => rfl
  rw [e]
  unfold fullRow
  simp only [List.map_map, Function.comp_def]
theorem forO_cons {S α : Type} {body : S → D → (S → Option α) → Option α} {d : D} {ds : List D} {s : S} {k : S → Option α} : forO body (d :: ds) s k = body s d (fun s' => forO body ds s' k) := rfl
theorem full_loop (hn : n ≤ 12) {α : Type} {k : D → Option α} : ∀ (xs : List Nat) (acc : List D), (∀ x ∈ xs, x < n) → acc.length + xs.length * 12 < 100000 →
    forO (S := D) (fun s3 a7 kk4 => ((b2 dAdd (some s3) ((lcO (C2 (fun x y => dRange [x, y]) (b2 dAdd (some a7) (some (PyData.int 1))) (some (PyData.int (n : Nat)))) fun b9 => turnO (some true) ((consO (some a7) (consO (some b9) (some []))).map PyData.tuple)).map PyData.list)).bind fun ties8 => (kk4 ties8))) (ofN xs) (.list acc) k = k (.list (acc ++ (xs.flatMap (fullRow n)).map tieD))
  | [], acc, _, _ => by
    have e : acc ++ (([] : List Nat).flatMap (fullRow n)).map tieD = acc := by simp
    rw [e]
    rfl
  | x :: xs, acc, hx, hl => by
    rw [List.length_cons] at hl
    have e1 := full_row (n := n) (by omega) (hx x List.mem_cons_self)
    have hlen : ((fullRow n x).map tieD).length ≤ 12 := by
      unfold fullRow
      rw [List.length_map, List.length_map, List.length_map, List.length_range]
      omega
    rw [show ofN (x :: xs) = PyData.int x :: ofN xs from rfl, forO_cons]
    rw [e1, Option.map_some, add_lists _ _ (by rw [sizeLine_eq]; omega), Option.bind_some]
    refine (full_loop hn xs _ (fun y hy => hx y (List.mem_cons_of_mem _ hy)) (by rw [List.length_append]; omega)).trans ?_
    rw [List.append_assoc, ← List.map_append, ← List.flatMap_cons]
theorem lawFull_eval (hn : n ≤ 12) : C1 m__law_full (some (.int (n : Nat))) = some (webD n (fullT n)) := by
  rw [c1_some]
  unfold m__law_full
  rw [range_items (by omega), Option.map_some, Option.bind_some, Option.bind_some, full_loop hn _ _ (fun x hx => List.mem_range.mp hx) (by rw [List.length_range]; simp; omega)]
  rfl
theorem full_9 : Wb 9 (fullT 9) := ⟨by decide, by decide, by decide, by decide, by decide⟩
theorem full_10 : Wb 10 (fullT 10) := ⟨by decide, by decide, by decide, by decide, by decide⟩
theorem full_11 : Wb 11 (fullT 11) := ⟨by decide, by decide, by decide +kernel, by decide +kernel, by decide +kernel⟩
theorem full_12 : Wb 12 (fullT 12) := ⟨by decide, by decide, by decide +kernel, by decide +kernel, by decide +kernel⟩
theorem full_web (h1 : 9 ≤ n) (h2 : n ≤ 12) : Wb n (fullT n) := by
  have : n = 9 ∨ n = 10 ∨ n = 11 ∨ n = 12 := by omega
  rcases this with rfl | rfl | rfl | rfl
  · exact full_9
  · exact full_10
  · exact full_11
  · exact full_12
end
end Dl

set_option Elab.async false
set_option linter.all false
set_option autoImplicit false
set_option maxRecDepth 100000
set_option maxHeartbeats 1000000
namespace Dl
open PySem L2 PySem.Spec PyProof.Rows
/-! ### defs that draw and call themselves -/
section
variable {α : Type} {P : Program} {w : World} {K : PySem.W.Frag} {mg : Str → Option Value} {base : Heap}
theorem kn_noneP {rk : RK α} {F : List D → M α} {x : Str} {st : Stmt} {f : Addr} {fd : FuncData} {ps : List Str} {k n : Nat} (Fn : Fun K x x st f fd) (mx : mg x = some (.ref f)) (bs : Binds K fd ps []) (h : ∀ ds q m, ¬ F ds q m) : Kn P w K mg base x k (spM rk n F) := by
  have no : ∀ vs H Q E, ¬ spM rk n F vs H Q E := fun vs H Q E ⟨_, _, _, _, m, _, ds, q, _, _, _, _, z, _⟩ => h ds q m z
  exact ⟨f, fd, ps, ⟨fun vs H Q E z => (no vs H Q E z).elim, fun _ _ _ H _ _ vs Q E _ _ _ _ _ z => (no vs H Q E z).elim⟩, mx, Fn.kp, bs⟩
end
/-! ### xs + ys, a list of one's own -/
def dCatL : D → D → Option (List D)
  | .list xs, .list ys => if xs.length + ys.length ≤ sizeLine then some (xs ++ ys) else none
  | _, _ => none
theorem odl_cat : OpDL rCat dCatL := by
  intro G H x y d e z Q gh rx ry hf k
  cases rx with
  | @lst l vs xs hl r =>
    cases ry with
    | @lst b ws ys hb r' =>
      simp only [dCatL, Option.ite_none_right_eq_some, Option.some.injEq] at hf
      obtain ⟨hz, rfl⟩ := hf
      refine ⟨l, b, vs, ws, rfl, rfl, gh _ _ hl, gh _ _ hb, by rw [r.length, r'.length]; exact hz, fun p hp => ?_⟩
      obtain ⟨g, s⟩ := grow_own gh hp (.lst (vs ++ ws))
      exact k p _ G _ g s hp (gh.free hp) upd_same (r.append r')
    | _ => cases hf
  | _ => cases hf
/-! ### found[k] of a list of one's own -/
theorem atI_rp {G : Hp} {vs : List V} {ds : List D} {i : Int} {z : D} (r : RpL G vs ds) (h : atI ds i = some z) : ∃ v, atI vs i = some v ∧ Rp G v z := by
  unfold atI at h ⊢
  rw [r.length]
  obtain ⟨j, h1, h2⟩ := Option.bind_eq_some_iff.mp h
  obtain ⟨v, h3, h4⟩ := r.get h2
  exact ⟨v, by rw [h1]; exact h3, h4⟩
theorem jm_ixO {X : Cx} {R : Res} {ρ : List Cell} {b : Expr} {x : Str} {px pos : Pos} {ds : List D} {Tb : M D} (i : Nat) (hb : JM X R ρ b Tb) (hρ : ρ[i]? = some (.own ds) := by rfl) (hN : X.N[i]? = some x := by rfl) (hv : Vis X.env.scope x := by first | exact Or.inl rfl | exact Or.inr (Or.inl rfl) | exact Or.inr (Or.inr rfl))
    (hd : (x == ("__debug__" : Str)) = false := by decide) (hcd : (x == ("__classdict__" : Str)) = false := by decide) (hs : PlainIx b := by exact fun _ _ => rfl) : JM X R ρ (.Subscript (.Name x px) b pos) (op2 dIx (lift (some (.list ds))) Tb) := by
  refine PE.imp (pe_ix ix_list (pe_var (i := i) hN hv hd hcd) hb hs) fun σ H Q ⟨G, m, q, S, t, c⟩ => ?_
  obtain ⟨l, vs, e1, gl, nv, en, hl, rv⟩ := S.ownT hρ
  obtain ⟨_, e0, t⟩ := t
  cases e0
  refine ⟨.ref l, e1, G, m, _, S, t, fun w e G2 H2 m2 S2 g2 r2 q2 => ?_⟩
  obtain ⟨z, hz, q3⟩ := q2
  cases r2 with
  | int n =>
    obtain ⟨v, h1, h2⟩ := atI_rp (rv.mono g2.gg) (show atI ds n = some z from hz)
    exact ⟨l, vs, n, v, rfl, rfl, SqL.of (g2.hh l _ nv hl), h1, c v z G2 H2 m2 S2 g2 h2 q3⟩
  | _ => cases hz
/-! ### t[::-1] -/
section
variable {prog : Program} {w : World} {A : Around} {E : Value → Shared → Prop} {s : Shared}
theorem back_places (n : Nat) : Builtin.Slice.slicePlaces ((n : Int) - 1) (-1) (-1) = n := by
  unfold Builtin.Slice.slicePlaces
  rw [if_neg (by decide)]
  by_cases h : (n : Int) - 1 > -1
  · rw [if_pos h, show (- -1 : Int) = 1 by decide, Int.ediv_one]
    omega
  · rw [if_neg h]
    have : n = 0 := by omega
    subst this
    rfl
theorem back_adjust (n : Nat) : Builtin.Slice.sliceAdjust none none (-1) (n : Int) = ((n : Int) - 1, -1) := rfl
theorem back_applied {sl : Addr} {u : Tok} {n : Nat} {Q : Int × Int × Nat → Shared → Prop} (hs : s.heap.IsSliceOf sl .none .none (.int (-1) u)) (h : Q ((n : Int) - 1, -1, n) s) : wpAny (model prog w) A (Builtin.Slice.sliceApplied (.ref sl) (pure (n : Int))) Q E s := by
  obtain ⟨os, hos, hcs, hds⟩ := id hs
  unfold Builtin.Slice.sliceApplied Builtin.Slice.sliceFields
  refine wpAny_bind (wpAny_bind (wpAny_field hos hds (x := .none) rfl (wpAny_bind (wpAny_field hos hds (x := .none) rfl (wpAny_bind (wpAny_field hos hds (x := .int (-1) u) rfl (wpAny_pure ?_)))))))
  refine wpAny_bind (HT.slicePart_ (.int (-1) u) ?_)
  show wpAny _ _ (if (((-1 : Int)) == 0) = true then _ else _) _ _ s
  rw [if_neg (by decide)]
  refine wpAny_bind (HT.slicePart_ .none (wpAny_bind (HT.slicePart_ .none (wpAny_bind (wpAny_pure ?_)))))
  show wpAny _ _ (match Builtin.Slice.sliceAdjust none none (-1) (n : Int) with | (lo, hi) => pure (lo, (-1 : Int), Builtin.Slice.slicePlaces lo hi (-1))) _ _ s
  rw [back_adjust]
  show wpAny _ _ (pure (((n : Int) - 1), (-1 : Int), Builtin.Slice.slicePlaces ((n : Int) - 1) (-1) (-1))) _ _ s
  rw [back_places]
  exact wpAny_pure h
theorem back_pick (xs : Array Value) : ((List.range xs.size).filterMap fun (m : Nat) => xs[(((xs.size : Int) - 1) + (m : Int) * -1).toNat]?).toArray = xs.toList.reverse.toArray := by
  have e := PySem.W.krv_pick xs
  unfold slicePick at e
  rw [PySem.W.krv_bounds, PySem.W.krv_sliceRange, List.filterMap_map] at e
  rw [← e]
  congr 2
  funext m
  have : (((xs.size : Int) - 1) + (m : Int) * -1).toNat = xs.size - 1 - m := by omega
  simp only [this, Function.comp]
theorem getItem_back {t sl : Addr} {items : Array Value} {u : Tok} {Q : Value → Shared → Prop} (ht : IsTup s.heap t items) (hs : s.heap.IsSliceOf sl .none .none (.int (-1) u)) (hz : items.size ≤ sizeLine)
    (h : Q (.ref s.heap.objs.size) { s with heap := s.heap.push { cls := .type "tuple", data := .seq items.toList.reverse.toArray } }) : wpAny (model prog w) A (getItem (.ref t) (.ref sl)) Q E s := by
  have ok : sizeOk (.seq items.toList.reverse.toArray) := by
    show items.toList.reverse.toArray.size ≤ sizeLine
    rw [List.size_toArray, List.length_reverse, Array.length_toList]
    exact hz
  obtain ⟨os, hos, hcs, hds⟩ := id hs
  unfold getItem
  try with_reducible refine wpAny_holding ?_
  first | refine wpAny_bind (wpAny_pure ?_) | skip
  refine wpAny_bind (wpAny_sequenceKey ht.typeIs (by decide) ?_)
  refine wpAny_bind (wpAny_callSpecial?_slot (name := Str.ofString "__getitem__") ht.typeIs PyProof.Rows.slot_tuple_getitem (wpAny_call_entry PyProof.Rows.slot_tuple_getitem ht.typeIs entry_tuple_getitem ?_ (args_tuple_getitem _ _)))
  refine wpAny_bind (m := Builtin.Tuple.tupleItemsOf (.ref t)) (tupleItemsOf_ ht (wpAny_bind (wpAny_typeOf (⟨os, hos, hcs⟩ : s.TypeIs (.ref sl) "slice") ?_)))
  rw [if_pos (by decide)]
  refine wpAny_bind (back_applied hs ?_)
  show wpAny _ _ (if ((((items.size : Int) - 1) == 0 && (-1 : Int) == 1 && items.size == items.size) = true) then _ else _) _ _ s
  rw [if_neg (by simp), back_pick]
  first
    | exact wpAny_bind (m := Builtin.Tuple.tupleExact _) (wpAny_newObj_type (wpAny_pure ⟨_, rfl, wpAny_pure h⟩) ok)
    | exact wpAny_bind (m := Builtin.Tuple.tupleExact _) (wpAny_newObj_type (wpAny_bind (wpAny_pure (wpAny_pure ⟨_, rfl, wpAny_pure h⟩))) ok)
    | exact wpAny_bind (wpAny_bind (m := Builtin.Tuple.tupleExact _) (wpAny_newObj_type (wpAny_pure (wpAny_pure ⟨_, rfl, wpAny_pure h⟩)) ok))
    | exact wpAny_bind (wpAny_bind (m := Builtin.Tuple.tupleExact _) (wpAny_newObj_type (wpAny_pure ⟨_, rfl, wpAny_pure h⟩) ok))
end
section
variable {X : Cx} {R : Res} {ρ : List Cell} {e : Expr} {te : TE} {k : Nat} {p1 p2 p3 pos : Pos}
def tBack (K : PySem.W.Frag) (te : TE) : TE := fun σ H Q => te σ H fun x H1 => ∃ a xs, x = .ref a ∧ ((SqL K H1 a xs ∧ ∀ p, H1 p = none → Q (.ref p) (upd H1 p (.lst xs.reverse))) ∨ (SqT K H1 a xs ∧ NewT H1 xs.reverse Q))
theorem pe_back (he : PE X e te) : PE X (.Subscript e (.Slice none none (some (.UnaryOp .USub (.Constant (.int 1) k p1) p2)) p3) pos) (tBack X.K te) := by
  refine ⟨fun pins s σ H Q I h => ?_⟩
  refine Subscript_ (thn (he.run pins s σ H _ I h) fun v s1 ⟨x, H1, I1, r1, q1⟩ => ?_)
  obtain ⟨a, xs, ex, q⟩ := q1
  subst ex
  cases r1
  have hst : PO X (some (.UnaryOp .USub (.Constant (.int 1) k p1) p2)) (tPart (tUn (rU fun i => .int (-i)) (tC (.int 1)))) := po_some (pe_un un_neg pe_int)
  refine wpAny_Slice (thn (po_none.run pins s1 σ H1 (fun o H2 => o = none ∧ H2 = H1) I1 ⟨rfl, rfl⟩) fun vl s2 ⟨l, H2, I2, pl, el, e2⟩ => ?_)
  subst el e2
  refine thn (po_none.run pins s2 σ H2 (fun o H3 => o = none ∧ H3 = H2) I2 ⟨rfl, rfl⟩) fun vu s3 ⟨u, H3, I3, pu, eu, e3⟩ => ?_
  subst eu e3
  refine thn (hst.run pins s3 σ H3 (fun o H4 => o = some (-1) ∧ H4 = H3) I3 ⟨1, rfl, -1, rfl, rfl, rfl⟩) fun vs s4 ⟨o, H4, I4, ps, eo, e4⟩ => ?_
  subst eo e4
  have I5 : Inv X pins σ H4 { s4 with heap := s4.heap.push { cls := .type "slice", data := .fields #[vl, vu, vs] } } := I4.kept (t' := s4.toks) fun b ob q => Heap.get?_push_of_some _ q
  show wpAny (model X.prog X.w) X.A (subscriptTail e (.Slice none none (some (.UnaryOp .USub (.Constant (.int 1) k p1) p2)) p3) (.ref a) (.ref s4.heap.objs.size)) (EP X pins σ Q) X.xe { s4 with heap := s4.heap.push { cls := .type "slice", data := .fields #[vl, vu, vs] } }
  rcases q with ⟨hx, q⟩ | ⟨hx, q⟩
  · obtain ⟨its, r, ht, hz⟩ := I5.list hx
    have hlen := r.length
    refine tail_any (ops := [.ref a, .ref s4.heap.objs.size]) ht.isList.typeIs (PySem.slot_list_getitem.lookup) ?_ (by with_unfolding_all rfl)
    refine wpAny_getItem_list_slice ht.isList (Heap.IsSliceOf.new _ vl vu vs) pl pu ps (by decide) ?_ (by rw [List.size_toArray]; omega)
    rw [PySem.W.krv_pick]
    refine ⟨.ref _, _, I5.laid (t' := s4.toks) (o := .lst xs.reverse) (fun b ob q => Heap.get?_push_of_some _ q) (Nat.le_refl _) ?_, rfl, q _ (I5.hok.fresh (Nat.le_refl _))⟩
    exact ⟨by rw [List.length_reverse]; exact hz, _, 0, r.reverse, Heap.get?_push_size _ rfl⟩
  · obtain ⟨its, r, ht, hz⟩ := I5.tuple hx
    have hlen := r.length
    refine tail_any (ops := [.ref a, .ref s4.heap.objs.size]) ht.typeIs PyProof.Rows.slot_tuple_getitem.lookup ?_ (by with_unfolding_all rfl)
    cases pl
    cases pu
    cases ps
    refine getItem_back ht (Heap.IsSliceOf.new _ _ _ _) (by rw [List.size_toArray]; omega) ?_
    exact new_tup s4.toks I5 r.reverse (by rw [List.length_reverse]; exact hz) q
def dRev : D → Option D
  | .list ds => some (.list ds.reverse)
  | .tuple ds => some (.tuple ds.reverse)
  | _ => none
theorem RpL.rev {G : Hp} : ∀ {ds : List D} {vs : List V}, RpL G vs ds → RpL G vs.reverse ds.reverse
  | [], _, h => by cases h; exact .nil
  | _ :: _, _, h => by
    cases h with
    | cons a b =>
      rw [List.reverse_cons, List.reverse_cons]
      exact (RpL.rev b).append (.cons a .nil)
theorem jm_rev {T : M D} (he : JM X R ρ e T) : JM X R ρ (.Subscript e (.Slice none none (some (.UnaryOp .USub (.Constant (.int 1) k p1) p2)) p3) pos) (fun q => T fun d => lift (dRev d) q) := by
  refine PE.imp (pe_back he) fun σ H Q ⟨G, m, q, S, t, c⟩ => ⟨G, m, _, S, t, fun v d G1 H1 m1 S1 g1 r1 q1 => ?_⟩
  obtain ⟨z, hz, q1⟩ := q1
  cases r1 with
  | @lst p vs ds hp r =>
    cases hz
    refine ⟨p, vs, rfl, .inl ⟨SqL.of (S1.gh _ _ hp), fun l hl => ?_⟩⟩
    obtain ⟨g2, s2⟩ := grow_new S1.gh hl (.lst vs.reverse)
    obtain ⟨S2, g2'⟩ := S1.growS g2 s2
    exact c _ _ _ _ m1 S2 (g1.trans S1.vh g2') (.lst upd_same (r.rev.mono g2.gg)) q1
  | @tup p vs ds hp r =>
    cases hz
    refine ⟨p, vs, rfl, .inr ⟨(hp.sqm S1.gh), fun l o ho hl => ?_⟩⟩
    obtain ⟨g2, s2⟩ := grow_new S1.gh hl (.frz o (.tup vs.reverse))
    obtain ⟨S2, g2'⟩ := S1.growS g2 s2
    exact c _ _ _ _ m1 S2 (g1.trans S1.vh g2') (.tup (Tu.new ho) (r.rev.mono g2.gg)) q1
  | _ => cases hz
theorem je_rev {o : Option D} (he : JE X R ρ e o) : JE X R ρ (.Subscript e (.Slice none none (some (.UnaryOp .USub (.Constant (.int 1) k p1) p2)) p3) pos) (o.bind dRev) := (jm_rev he).imp fun _ _ => lift1
end
/-! ### xs[i] = e, e drawn -/
section
variable {α : Type} {X : Cx} {R : Res} {rk : RK α} {ρ : List Cell} {rest : List Stmt} {κ : Kt} {q : α → Nat → Prop} {e ix : Expr} {pos p1 p2 : Pos} {x : Str} {ds : List D}
theorem jk_setIM {T Ti : M D} (i : Nat) {k : List D → Nat → Prop} (he : JM X R ρ e T) (hi : JM X R ρ ix Ti) (hr : ∀ ds, JK X R rk (ρ.set i (.own ds)) rest κ q (k ds)) (hρ : ρ[i]? = some (.own ds) := by rfl) (hN : X.N[i]? = some x := by rfl)
    (hv : Vis X.env.scope x := by first | exact Or.inl rfl | exact Or.inr (Or.inl rfl) | exact Or.inr (Or.inr rfl)) (hd : (x == ("__debug__" : Str)) = false := by decide) (hcd : (x == ("__classdict__" : Str)) = false := by decide)
    (ha : ∀ v, assign (.Subscript (.Name x p1) ix p2) X.env v = (do
      let ov ← holding [v] (eval (.Name x p1) X.env)
      let iv ← holding [v, ov] (eval ix X.env)
      standAt p2
      holding [v, ov, iv] (setItem ov iv v)
      release [v, ov, iv] []) := by intro _; rfl)
    (hs : swapsWithSole [.Subscript (.Name x p1) ix p2] e pos.line X.env = pure false := by rfl) (hw : swappedStores [.Subscript (.Name x p1) ix p2] e X.env = pure none := by rfl) (h1 : (assignEach [.Subscript (.Name x p1) ix p2] X.env).map (·.2) = [assign (.Subscript (.Name x p1) ix p2) X.env] := by rfl) :
    JK X R rk ρ (.Assign [.Subscript (.Name x p1) ix p2] e pos :: rest) κ q (setIK ds T Ti k) := jk_setI i he hi hr hρ hN hv hd hcd ha hs hw h1
end
end Dl

set_option Elab.async false
set_option linter.all false
set_option autoImplicit false
set_option maxRecDepth 100000
set_option maxHeartbeats 1000000
namespace Dl
open PySem L2
@[irreducible] def m_is_integer (value1 : D) : Option (D) :=
  (andV ((some value1).map fun d => PyData.bool (isTy "int" d)) (notV ((some value1).map fun d => PyData.bool (isTy "bool" d))))
@[irreducible] def m_is_place (n1 value2 : D) : Option (D) :=
  (andV (C1 m_is_integer (some value2)) (chainO dLe dLt (some (PyData.int 0)) (some value2) (some n1)))
@[irreducible] def m__law_odd : M D := fun q =>
  ((drawM (consM (lift ((consO (some PyData.none) (consO (some (PyData.bool true)) (consO (some (PyData.bool false)) (consO (some (PyData.int 0)) (consO (some (PyData.int 1)) (consO ((some (PyData.int 1)).bind dNeg) (consO (some (PyData.str "")) (consO (some (PyData.str "a")) (consO ((some []).map PyData.tuple) (consO ((some []).map PyData.list) (consO (some (PyData.dict [])) (consO ((consO (some (PyData.int 0)) (some [])).map PyData.tuple) (consO ((consO (some (PyData.int 0)) (consO (some (PyData.int 0)) (some []))).map PyData.tuple) (consO ((consO ((some []).map PyData.tuple) (some [])).map PyData.list) (consO ((consO ((some []).map PyData.tuple) (some [])).map PyData.tuple) (consO (some (PyData.int 99)) (consO (b2 dPow (some (PyData.int 10)) (some (PyData.int 20))) (some [])))))))))))))))))).map PyData.list)) nilM) (G1 m__law_one_of)) q)
def b__law_bent (self : D → M D) (value1 : D) : M D := fun q =>
  (ifK (andM (lift (((some value1).map fun d => PyData.bool (isTy "int" d)).bind asT)) (bindM (op2 dGt (drawM (consM (lift (some (PyData.int 4))) nilM) (G1 m__law_take)) (lift (some (PyData.int 0)))) asB)) ((drawM (consM (lift ((consO (b2 dAdd (some value1) (some (PyData.int 1))) (consO (b2 dSub (some value1) (some (PyData.int 1))) (consO (ifO ((chainO dLe dLt (some (PyData.int 0)) (some value1) (some (PyData.int 2))).bind asB) (b2 dEq (some value1) (some (PyData.int 1))) ((some value1).bind dNeg)) (consO (b2 dMul (some value1) (some (PyData.int 1000))) (some []))))).map PyData.list)) nilM) (G1 m__law_one_of)) q) (ifK (orM (lift ((((some value1).map fun d => PyData.bool (isTy "tuple" d || isTy "list" d)).bind asT).map (!·))) (orM (lift ((b2 dEq (C1 dLen (some value1)) (some (PyData.int 0))).bind asB)) (bindM (op2 dEq (drawM (consM (lift (some (PyData.int 8))) nilM) (G1 m__law_take)) (lift (some (PyData.int 0)))) asB))) ((drawM nilM (G0 m__law_odd)) q) ((consLM (lift (C1 dItems (some value1))) (consDM (drawM (consM (lift (some (PyData.int 10))) nilM) (G1 m__law_take)) (consDM (drawM (consM (lift (C1 dLen (some value1))) nilM) (G1 m__law_take)) nilCM))) (cel3M (fun c3 c5 c7 => (onLM (fun found2 => (onDM (fun way4 => (onDM (fun k6 => (joinK (fun (s8 : D) => ((ifM (bindM (op2 dEq (lift ((some value1).map fun d => PyData.bool (isTy "tuple" d))) (op2 dGt (drawM (consM (lift (some (PyData.int 12))) nilM) (G1 m__law_take)) (lift (some (PyData.int 0))))) asB) (lift (C1 dTup (some s8))) (lift (some s8))) q)) fun kk9 => ifK (lift ((b2 dLt (some way4) (some (PyData.int 7))).bind asB)) (setIK found2 (drawM (consM (op2 dIx (lift (some (PyData.list found2))) (lift (some k6))) nilM) (G1 self)) (lift (some k6)) fun found10 => (kk9 (PyData.list found10))) ((lift (b2 dIx ((consO (b2 dAdd (slO (some (PyData.list found2)) (some none) ((some k6).bind asI)) (slO (some (PyData.list found2)) ((b2 dAdd (some k6) (some (PyData.int 1))).bind asI) (some none))) (consO (b2 dAdd (some (PyData.list found2)) (slO (some (PyData.list found2)) ((some k6).bind asI) ((b2 dAdd (some k6) (some (PyData.int 1))).bind asI))) (consO ((some (PyData.list found2)).bind dRev) (some [])))).map PyData.list) (b2 dSub (some way4) (some (PyData.int 7))))) fun found11 => (kk9 found11)))) c7)) c5)) c3))))))
def m__law_bent : Nat → D → M D
  | 0 => fun _ => fun _ _ => False
  | n + 1 => b__law_bent (m__law_bent n)
@[irreducible] def r__law_bent : D → M D := m__law_bent 40
@[irreducible] def m__law_is_whole (value1 : D) : Option (D) :=
  (andV ((some value1).map fun d => PyData.bool (isTy "int" d)) (notV ((some value1).map fun d => PyData.bool (isTy "bool" d))))
/-! ### general draws -/
theorem sp_slice {k k2 k3 : Nat} {T : M D} {Tl Th : M (Option Int)} {Φ : D → Prop} {Ψ Χ : Option Int → Prop} {Φz : D → Prop} (hT : Sp k T Φ) (hl : Sp k2 Tl Ψ) (hh : Sp k3 Th Χ) (hf : ∀ d l u, Φ d → Ψ l → Χ u → ∃ z, dCut d l u = some z ∧ Φz z) : Sp (k + k2 + k3) (sliceM T Tl Th) Φz := fun q m hm hq =>
  hT _ m (by omega) fun d m1 h1 hd => hl _ m1 (by omega) fun l m2 h2 hl => hh _ m2 (by omega) fun u m3 h3 hu => by
    obtain ⟨z, hz, hz2⟩ := hf d l u hd hl hu
    exact ⟨z, hz, hq z m3 (by omega) hz2⟩
theorem sp_one_of {ds : List D} (h0 : 0 < ds.length) (h1 : ds.length < 100000) : Sp 1 (m__law_one_of (.list ds)) (fun d => d ∈ ds) := fun q m hm hq => by
  unfold m__law_one_of
  refine sp_op2 (f := dIx) (Φ := fun d => d ∈ ds) (sp_lift rfl) (sp_draw (k := 0) (n := ds.length) (sp_lift rfl) h0 (by omega)) (fun x y hx hy => ?_) q m (by omega) fun a m' hm' ha => hq a m' (by omega) ha
  subst hx
  obtain ⟨v, rfl, hv⟩ := hy
  refine ⟨ds[v], ?_, List.getElem_mem hv⟩
  rw [dIx_list (by omega) (by omega), Int.toNat_natCast]
  exact List.getElem?_eq_getElem hv
theorem cut_take (xs : List Nat) (k : Nat) : dCut (.tuple (ofN xs)) none (some (k : Int)) = some (.tuple (ofN (xs.take k))) := by
  have := take_eval xs k
  rwa [asI_int, slO_some] at this
/-- one of a list that is told -/
theorem sp_oneL {E : Option D} {ds : List D} (hE : E = some (.list ds)) (h0 : 0 < ds.length) (h1 : ds.length < 100000) : Sp 1 (drawM (consM (lift E) nilM) (G1 m__law_one_of)) (fun d => d ∈ ds) := fun q m hm hq => ⟨_, hE, sp_one_of h0 h1 q m hm hq⟩
theorem sp_webs {lo : Nat} {his : List Nat} (hl : 1 ≤ lo) (h0 : 0 < his.length) (hs : his.length < 1000) (hi : ∀ h ∈ his, lo ≤ h ∧ h ≤ 12) : Sp 201 (drawM (consM (lift (some (PyData.int (lo : Nat)))) (consM (drawM (consM (lift (some (PyData.list (ofN his)))) nilM) (G1 m__law_one_of)) nilM)) (G2 m__law_draw_web)) (fun d => ∃ n ts, d = webD n ts ∧ Wb n ts ∧ lo ≤ n) := fun q m hm hq => by
  have s1 : Sp 1 (drawM (consM (lift (some (PyData.list (ofN his)))) nilM) (G1 m__law_one_of)) (fun d => d ∈ ofN his) := sp_oneL rfl (by rw [ofN_len]; exact h0) (by rw [ofN_len]; omega)
  refine (sp_cons (sp_lift (a := PyData.int (lo : Nat)) rfl) (sp_cons s1 sp_nil)).use (by omega) fun ds m1 hm1 hd => ?_
  obtain ⟨d, r, rfl, rfl, e, r2, rfl, he, rfl⟩ := hd
  obtain ⟨h, hh, rfl⟩ := List.mem_map.mp he
  obtain ⟨a1, a2⟩ := hi h hh
  refine (sp_web (lo := lo) (hi := h) hl a1 a2).use (by omega) fun d m2 hm2 hd => ?_
  obtain ⟨n, ts, rfl, W, h3, _⟩ := hd
  exact hq _ m2 (by omega) ⟨n, ts, rfl, W, h3⟩
theorem ifK_sp {k m : Nat} {T : M Bool} {Φ : Bool → Prop} {A B : Nat → Prop} (h : Sp k T Φ) (hm : m + k ≤ 1000000000) (hA : ∀ m', m' ≤ m + k → Φ true → A m') (hB : ∀ m', m' ≤ m + k → Φ false → B m') : ifK T A B m := h _ m hm fun t m' hm' ht => by
  cases t with
  | true => exact hA m' hm' ht
  | false => exact hB m' hm' ht
theorem sp_andT {k : Nat} {T : M Bool} {o : Option Bool} {Φ : Bool → Prop} (ho : o = some true) (h : Sp k T Φ) : Sp k (andM (lift o) T) Φ := fun q m hm hq => ⟨true, ho, h q m hm hq⟩
theorem sp_andF {k : Nat} {T : M Bool} {o : Option Bool} {Φ : Bool → Prop} (ho : o = some false) (h : Φ false) : Sp k (andM (lift o) T) Φ := fun q m hm hq => ⟨false, ho, hq false m (by omega) h⟩
theorem sp_orT {k : Nat} {T : M Bool} {o : Option Bool} {Φ : Bool → Prop} (ho : o = some true) (h : Φ true) : Sp k (orM (lift o) T) Φ := fun q m hm hq => ⟨true, ho, hq true m (by omega) h⟩
theorem sp_orF {k : Nat} {T : M Bool} {o : Option Bool} {Φ : Bool → Prop} (ho : o = some false) (h : Sp k T Φ) : Sp k (orM (lift o) T) Φ := fun q m hm hq => ⟨false, ho, h q m hm hq⟩
theorem sp_any {k : Nat} {α : Type} {T : M α} {Φ : α → Prop} (h : Sp k T Φ) : Sp k T fun _ => True := h.mono (Nat.le_refl _) fun _ _ => trivial
theorem sp_gt0 {n : Nat} (h0 : 0 < n) (h1 : n < 2 ^ 256) : Sp 1 (op2 dGt (drawM (consM (lift (some (PyData.int (n : Nat)))) nilM) (G1 m__law_take)) (lift (some (PyData.int 0)))) (fun d => ∃ b : Bool, d = .bool b) :=
  sp_op2 (f := dGt) (sp_draw (k := 0) (n := n) (sp_lift rfl) h0 h1) (sp_lift (a := PyData.int 0) rfl) fun x y hx hy => by
    obtain ⟨v, rfl, _⟩ := hx
    subst hy
    exact ⟨_, gt_nat v 0, _, rfl⟩
theorem sp_gt0B {n : Nat} (h0 : 0 < n) (h1 : n < 2 ^ 256) : Sp 1 (bindM (op2 dGt (drawM (consM (lift (some (PyData.int (n : Nat)))) nilM) (G1 m__law_take)) (lift (some (PyData.int 0)))) asB) (fun _ => True) :=
  sp_bind (sp_gt0 h0 h1) fun d hd => by
    obtain ⟨b, rfl⟩ := hd
    exact ⟨b, rfl, trivial⟩
theorem sp_eq0B {n : Nat} (h0 : 0 < n) (h1 : n < 2 ^ 256) : Sp 1 (bindM (op2 dEq (drawM (consM (lift (some (PyData.int (n : Nat)))) nilM) (G1 m__law_take)) (lift (some (PyData.int 0)))) asB) (fun _ => True) :=
  sp_bind (Φd := fun d => ∃ b : Bool, d = .bool b) (sp_op2 (f := dEq) (sp_draw (k := 0) (n := n) (sp_lift rfl) h0 h1) (sp_lift (a := PyData.int 0) rfl) fun x y hx hy => by
    obtain ⟨v, rfl, _⟩ := hx
    subst hy
    exact ⟨_, eq_nat v 0, _, rfl⟩) fun d hd => by
    obtain ⟨b, rfl⟩ := hd
    exact ⟨b, rfl, trivial⟩
/-! ### small data -/
mutual
theorem depth_cnt : ∀ d : D, nice d = true → d.depth ≤ cnt d
  | .none, _ => by simp [PyData.depth]
  | .bool _, _ => by simp [PyData.depth]
  | .int _, _ => by simp [PyData.depth]
  | .str _, _ => by simp [PyData.depth]
  | .list ds, h => by
    have := depthL_cnt ds h
    simp only [PyData.depth, cnt]
    omega
  | .tuple ds, h => by
    have := depthL_cnt ds h
    simp only [PyData.depth, cnt]
    omega
  | .dict [], _ => by simp [PyData.depth, PyData.depthKv, cnt]
theorem depthL_cnt : ∀ ds : List D, niceL ds = true → PyData.depthAll ds ≤ cntL ds
  | [], _ => by simp [PyData.depthAll]
  | d :: ds, h => by
    simp only [niceL, Bool.and_eq_true] at h
    have h1 := depth_cnt d h.1
    have h2 := depthL_cnt ds h.2
    simp only [PyData.depthAll, cntL]
    omega
end
theorem niceL_iff : ∀ {ds : List D}, niceL ds = true ↔ ∀ d ∈ ds, nice d = true
  | [] => by simp [niceL]
  | d :: ds => by simp [niceL, niceL_iff (ds := ds)]
theorem cnt_pos (d : D) : 1 ≤ cnt d := by cases d <;> simp [cnt]
theorem cntL_len : ∀ ds : List D, ds.length ≤ cntL ds
  | [] => by simp [cntL]
  | d :: ds => by
    have := cntL_len ds
    have := cnt_pos d
    simp only [List.length_cons, cntL]
    omega
theorem cntL_app : ∀ ds es : List D, cntL (ds ++ es) = cntL ds + cntL es
  | [], es => by simp [cntL]
  | d :: ds, es => by
    rw [List.cons_append, cntL, cntL, cntL_app ds es]
    omega
theorem cntL_perm {ds es : List D} (h : ds.Perm es) : cntL ds = cntL es := by
  induction h with
  | nil => rfl
  | cons x _ ih => rw [cntL, cntL, ih]
  | swap x y l => simp only [cntL]; omega
  | trans _ _ i1 i2 => rw [i1, i2]
theorem cntL_sub {ds es : List D} (h : ds.Sublist es) : cntL ds ≤ cntL es := by
  induction h with
  | slnil => exact Nat.le_refl _
  | cons a _ ih => rw [cntL]; omega
  | cons_cons a _ ih => rw [cntL, cntL]; omega
theorem cntL_set : ∀ (ds : List D) (k : Nat) (e : D) (h : k < ds.length), cntL (ds.set k e) + cnt ds[k] = cntL ds + cnt e
  | d :: ds, 0, e, _ => by simp only [List.set_cons_zero, List.getElem_cons_zero, cntL]; omega
  | d :: ds, k + 1, e, h => by
    have := cntL_set ds k e (by simpa using h)
    simp only [List.set_cons_succ, List.getElem_cons_succ, cntL]
    omega
theorem cnt_mem {ds : List D} {d : D} (h : d ∈ ds) : cnt d ≤ cntL ds := by
  have := cntL_sub (List.singleton_sublist.mpr h)
  simpa [cntL] using this
theorem depthAll_app : ∀ ds es : List D, PyData.depthAll (ds ++ es) = max (PyData.depthAll ds) (PyData.depthAll es)
  | [], es => by simp [PyData.depthAll]
  | d :: ds, es => by
    rw [List.cons_append, PyData.depthAll, PyData.depthAll, depthAll_app ds es]
    omega
theorem depthAll_le {ds : List D} {e : Nat} (h : ∀ d ∈ ds, d.depth ≤ e) : PyData.depthAll ds ≤ e := by
  induction ds with
  | nil => simp [PyData.depthAll]
  | cons d ds ih =>
    have h1 := h d List.mem_cons_self
    have h2 := ih fun x hx => h x (List.mem_cons_of_mem _ hx)
    simp only [PyData.depthAll]
    omega
theorem depth_mem {ds : List D} {d : D} (h : d ∈ ds) : d.depth ≤ PyData.depthAll ds := by
  induction ds with
  | nil => cases h
  | cons x ds ih =>
    simp only [PyData.depthAll]
    rcases List.mem_cons.mp h with rfl | h
    · omega
    · have := ih h
      omega
/-- data of at most so many parts, so deep -/
def Sm (c e : Nat) (d : D) : Prop := nice d = true ∧ cnt d ≤ c ∧ d.depth ≤ e
def SmL (c e : Nat) (ds : List D) : Prop := niceL ds = true ∧ cntL ds ≤ c ∧ PyData.depthAll ds ≤ e
/-- .. whose repr is a text -/
def Fine (d : D) : Prop := Sm 1000 60 d
theorem Fine.repr {d : D} (h : Fine d) : ∃ T : Str, C1 dRepr (some d) = some (.str T) := repr_ok h.1 h.2.1 h.2.2
theorem Sm.mono {c e c2 e2 : Nat} {d : D} (h : Sm c e d) (hc : c ≤ c2) (he : e ≤ e2) : Sm c2 e2 d := ⟨h.1, Nat.le_trans h.2.1 hc, Nat.le_trans h.2.2 he⟩
theorem Sm.fine {c e : Nat} {d : D} (h : Sm c e d) (hc : c ≤ 1000 := by omega) (he : e ≤ 60 := by omega) : Fine d := h.mono hc he
theorem SmL.mono {c e c2 e2 : Nat} {ds : List D} (h : SmL c e ds) (hc : c ≤ c2) (he : e ≤ e2) : SmL c2 e2 ds := ⟨h.1, Nat.le_trans h.2.1 hc, Nat.le_trans h.2.2 he⟩
theorem smL_nil {e : Nat} : SmL 0 e [] := ⟨rfl, Nat.le_refl _, Nat.zero_le _⟩
theorem SmL.cons {a b e : Nat} {d : D} {ds : List D} (h : Sm a e d) (hs : SmL b e ds) : SmL (a + b) e (d :: ds) := ⟨by simp [niceL, h.1, hs.1], by have := h.2.1; have := hs.2.1; simp only [cntL]; omega, by have := h.2.2; have := hs.2.2; simp only [PyData.depthAll]; omega⟩
theorem SmL.tup {c e : Nat} {ds : List D} (h : SmL c e ds) : Sm (c + 1) (e + 1) (.tuple ds) := ⟨h.1, by have := h.2.1; simp only [cnt]; omega, by have := h.2.2; simp only [PyData.depth]; omega⟩
theorem SmL.lst {c e : Nat} {ds : List D} (h : SmL c e ds) : Sm (c + 1) (e + 1) (.list ds) := ⟨h.1, by have := h.2.1; simp only [cnt]; omega, by have := h.2.2; simp only [PyData.depth]; omega⟩
theorem SmL.app {a b e : Nat} {ds es : List D} (h : SmL a e ds) (h2 : SmL b e es) : SmL (a + b) e (ds ++ es) := ⟨niceL_iff.mpr fun d hd => by
  rcases List.mem_append.mp hd with hd | hd
  · exact niceL_iff.mp h.1 d hd
  · exact niceL_iff.mp h2.1 d hd, by rw [cntL_app]; have := h.2.1; have := h2.2.1; omega, by rw [depthAll_app]; have := h.2.2; have := h2.2.2; omega⟩
theorem SmL.sub {a e : Nat} {ds es : List D} (h : SmL a e es) (hs : ds.Sublist es) : SmL a e ds := ⟨niceL_iff.mpr fun d hd => niceL_iff.mp h.1 d (hs.subset hd), Nat.le_trans (cntL_sub hs) h.2.1, depthAll_le fun d hd => Nat.le_trans (depth_mem (hs.subset hd)) h.2.2⟩
theorem SmL.perm {a e : Nat} {ds es : List D} (h : SmL a e es) (hp : ds.Perm es) : SmL a e ds := ⟨niceL_iff.mpr fun d hd => niceL_iff.mp h.1 d (hp.mem_iff.mp hd), by rw [cntL_perm hp]; exact h.2.1, depthAll_le fun d hd => Nat.le_trans (depth_mem (hp.mem_iff.mp hd)) h.2.2⟩
theorem smL_ofN {xs : List Nat} (h : ∀ x ∈ xs, x < 1000000) : SmL xs.length 0 (ofN xs) := nice_places h
theorem sm_int {e : Nat} {i : Int} (h : i.natAbs < 10 ^ 60) : Sm 1 e (.int i) := ⟨decide_eq_true h, Nat.le_refl _, Nat.zero_le _⟩
theorem sm_bool {e : Nat} (b : Bool) : Sm 1 e (.bool b) := ⟨rfl, Nat.le_refl _, Nat.zero_le _⟩
theorem sm_none {e : Nat} : Sm 1 e .none := ⟨rfl, Nat.le_refl _, Nat.zero_le _⟩
/-! ### odd values -/
def oddL : List D := [.none, .bool true, .bool false, .int 0, .int 1, .int (-1), .str "", .str "a", .tuple [], .list [], .dict [], .tuple [.int 0], .tuple [.int 0, .int 0], .list [.tuple []], .tuple [.tuple []], .int 99, .int (10 ^ 20)]
theorem pow20 : b2 dPow (some (PyData.int 10)) (some (PyData.int 20)) = some (.int (10 ^ 20)) := dPow_ok (i := 10) (n := 20) (by decide) (by decide)
theorem odd_list : ((consO (some PyData.none) (consO (some (PyData.bool true)) (consO (some (PyData.bool false)) (consO (some (PyData.int 0)) (consO (some (PyData.int 1)) (consO ((some (PyData.int 1)).bind dNeg) (consO (some (PyData.str "")) (consO (some (PyData.str "a")) (consO ((some []).map PyData.tuple) (consO ((some []).map PyData.list) (consO (some (PyData.dict [])) (consO ((consO (some (PyData.int 0)) (some [])).map PyData.tuple) (consO ((consO (some (PyData.int 0)) (consO (some (PyData.int 0)) (some []))).map PyData.tuple) (consO ((consO ((some []).map PyData.tuple) (some [])).map PyData.list) (consO ((consO ((some []).map PyData.tuple) (some [])).map PyData.tuple) (consO (some (PyData.int 99)) (consO (b2 dPow (some (PyData.int 10)) (some (PyData.int 20))) (some [])))))))))))))))))).map PyData.list) = some (.list oddL) := by
  rw [pow20]
  rfl
theorem oddL_sm : ∀ d ∈ oddL, Sm 3 2 d := by
  intro d hd
  have h : (oddL.all fun d => nice d && (decide (cnt d ≤ 3) && decide (d.depth ≤ 2))) = true := by decide +kernel
  have := List.all_eq_true.mp h d hd
  simp only [Bool.and_eq_true, decide_eq_true_eq] at this
  exact this
theorem sp_odd : Sp 1 m__law_odd (Sm 3 2) := fun q m hm hq => by
  unfold m__law_odd
  exact (sp_oneL odd_list (by decide) (by decide)).use hm fun d m' hm' hd => hq d m' hm' (oddL_sm d hd)
/-! ### values bent -/
mutual
/-- ints, and tuples of such -/
def nest : D → Bool
  | .int i => decide (i.natAbs < 10 ^ 50)
  | .tuple ds => nestL ds
  | _ => false
def nestL : List D → Bool
  | [] => true
  | d :: ds => nest d && nestL ds
end
theorem nestL_iff : ∀ {ds : List D}, nestL ds = true ↔ ∀ d ∈ ds, nest d = true
  | [] => by simp [nestL]
  | d :: ds => by simp [nestL, nestL_iff (ds := ds)]
theorem pow5060 : (10 : Nat) ^ 50 * 1000 < 10 ^ 60 := by decide
mutual
theorem nest_nice : ∀ {d : D}, nest d = true → nice d = true
  | .none, h => by cases h
  | .bool _, h => by cases h
  | .str _, h => by cases h
  | .list _, h => by cases h
  | .dict _, h => by cases h
  | .int i, h => by
    have h1 : i.natAbs < 10 ^ 50 := of_decide_eq_true h
    have := pow5060
    exact decide_eq_true (by omega)
  | .tuple ds, h => nestL_nice (ds := ds) h
theorem nestL_nice : ∀ {ds : List D}, nestL ds = true → niceL ds = true
  | [], _ => rfl
  | d :: ds, h => by
    simp only [nestL, Bool.and_eq_true] at h
    simp only [niceL, Bool.and_eq_true]
    exact ⟨nest_nice h.1, nestL_nice h.2⟩
end
/-- an int made another one -/
theorem sp_int {i : Int} (h : i.natAbs < 10 ^ 50) : Sp 1 (drawM (consM (lift ((consO (b2 dAdd (some (PyData.int i)) (some (PyData.int 1))) (consO (b2 dSub (some (PyData.int i)) (some (PyData.int 1))) (consO (ifO ((chainO dLe dLt (some (PyData.int 0)) (some (PyData.int i)) (some (PyData.int 2))).bind asB) (b2 dEq (some (PyData.int i)) (some (PyData.int 1))) ((some (PyData.int i)).bind dNeg)) (consO (b2 dMul (some (PyData.int i)) (some (PyData.int 1000))) (some []))))).map PyData.list)) nilM) (G1 m__law_one_of)) (Sm 1 0) := fun q m hm hq => by
  have hb := pow5060
  have e1 : b2 dAdd (some (PyData.int i)) (some (PyData.int 1)) = some (.int (i + 1)) := rfl
  have e2 : b2 dSub (some (PyData.int i)) (some (PyData.int 1)) = some (.int (i - 1)) := rfl
  have h6 : (10 : Nat) ^ 50 < 2 ^ 256 := by decide
  have h7 : (10 : Nat) ^ 50 + 1 < 10 ^ 60 := by decide
  have e3 : b2 dMul (some (PyData.int i)) (some (PyData.int 1000)) = some (.int (i * 1000)) := mul_ok (by omega) (by decide)
  have e4 : ∃ z, (ifO ((chainO dLe dLt (some (PyData.int 0)) (some (PyData.int i)) (some (PyData.int 2))).bind asB) (b2 dEq (some (PyData.int i)) (some (PyData.int 1))) ((some (PyData.int i)).bind dNeg)) = some z ∧ Sm 1 0 z := by
    have c : (chainO dLe dLt (some (PyData.int 0)) (some (PyData.int i)) (some (PyData.int 2))).bind asB = some (decide (0 ≤ i) && decide (i < 2)) := by
      show (((some (PyData.bool (decide (0 ≤ i)))).bind asB).bind fun t => if t = true then some (PyData.bool (decide (i < 2))) else some (.bool false)).bind asB = _
      cases hd : decide (0 ≤ i) <;> rfl
    rw [c]
    cases hh : (decide (0 ≤ i) && decide (i < 2)) with
    | true =>
      refine ⟨.bool (PyData.eqv (.int i) (.int 1)), ?_, sm_bool _⟩
      show b2 dEq (some (PyData.int i)) (some (PyData.int 1)) = _
      rw [b2_some]
      unfold dEq
      rw [if_pos (eqOk_int i 1)]
    | false => exact ⟨.int (-i), rfl, sm_int (by omega)⟩
  obtain ⟨z, e4, hz⟩ := e4
  refine (sp_oneL (ds := [.int (i + 1), .int (i - 1), z, .int (i * 1000)]) (by rw [e1, e2, e3, e4]; rfl) (by simp) (by simp)).use hm fun d m' hm' hd => hq d m' hm' ?_
  simp only [List.mem_cons, List.not_mem_nil, or_false] at hd
  rcases hd with rfl | rfl | rfl | rfl
  · exact sm_int (by omega)
  · exact sm_int (by omega)
  · exact hz
  · refine sm_int ?_
    have : (i * 1000).natAbs = i.natAbs * 1000 := by omega
    omega

theorem sp_bent_at : ∀ (n : Nat) (d : D), nest d = true → d.depth < n → cnt d ≤ 1000 → Sp (6 * (d.depth + 1)) (m__law_bent n d) (Sm (2 * cnt d + 5) (d.depth + 2))
  | 0, d, _, h, _ => (Nat.not_lt_zero _ h).elim
  | n + 1, .int i, hn, _, _ => fun q m hm hq => by
    have hi : i.natAbs < 10 ^ 50 := of_decide_eq_true hn
    refine (?_ : b__law_bent (m__law_bent n) (.int i) q m)
    unfold b__law_bent
    refine ifK_sp (sp_andT rfl (sp_gt0B (n := 4) (by decide) (by decide))) (by omega) (fun m1 h1 _ => ?_) fun m1 h1 _ => ?_
    · exact (sp_int hi).use (by omega) fun d m2 h2 hd => hq d m2 (by omega) (hd.mono (by omega) (by omega))
    · refine ifK_sp (k := 0) (Φ := fun b => b = true) (sp_orT rfl rfl) (by omega) (fun m2 h2 _ => ?_) fun m2 h2 h => nomatch h
      exact sp_odd.use (by omega) fun d m3 h3 hd => hq d m3 (by omega) (hd.mono (by omega) (by omega))
  | n + 1, .tuple ds, hn, hd, hc => fun q m hm hq => by
    have hnl : nestL ds = true := hn
    simp only [PyData.depth] at hd hm hq
    simp only [cnt] at hc
    have hnice := nestL_nice hnl
    have hlen := cntL_len ds
    refine (?_ : b__law_bent (m__law_bent n) (.tuple ds) q m)
    unfold b__law_bent
    refine ifK_sp (k := 0) (Φ := fun b => b = false) (sp_andF rfl rfl) (by omega) (fun m2 h2 h => nomatch h) fun m0 h0 _ => ?_
    have e0 : (b2 dEq (C1 dLen (some (PyData.tuple ds))) (some (PyData.int 0))).bind asB = some (decide (ds.length = 0)) := congrArg (·.bind asB) (eq_nat ds.length 0)
    have tst : Sp 1 (orM (lift ((((some (PyData.tuple ds)).map fun d => PyData.bool (isTy "tuple" d || isTy "list" d)).bind asT).map (!·))) (orM (lift ((b2 dEq (C1 dLen (some (PyData.tuple ds))) (some (PyData.int 0))).bind asB)) (bindM (op2 dEq (drawM (consM (lift (some (PyData.int 8))) nilM) (G1 m__law_take)) (lift (some (PyData.int 0)))) asB))) (fun b => b = true ∨ 0 < ds.length) := by
      refine sp_orF rfl ?_
      by_cases z : ds.length = 0
      · rw [decide_eq_true z] at e0
        exact sp_orT e0 (.inl rfl)
      · rw [decide_eq_false z] at e0
        exact sp_orF e0 ((sp_eq0B (n := 8) (by decide) (by decide)).mono (Nat.le_refl _) fun _ _ => .inr (by omega))
    refine ifK_sp tst (by omega) (fun m1 h1 _ => ?_) fun m1 h1 hpos => ?_
    · exact sp_odd.use (by omega) fun d m3 h3 hd => hq d m3 (by omega) (hd.mono (by simp only [cnt]; omega) (by omega))
    have hpos : 0 < ds.length := hpos.resolve_left (by simp)
    refine ⟨_, rfl, ?_⟩
    dsimp only [nilCM, cel3M, onLM, onDM]
    refine (sp_draw (k := 0) (n := 10) (sp_lift (a := PyData.int 10) rfl) (by decide) (by decide)).useD (by omega) fun d m2 h2 hd2 => ?_
    obtain ⟨v, rfl, hv⟩ := hd2
    refine (sp_draw (k := 0) (n := ds.length) (sp_lift (a := PyData.int (ds.length : Nat)) rfl) hpos (by omega)).useD (by omega) fun d m3 h3 hd3 => ?_
    obtain ⟨k, rfl, hk⟩ := hd3
    -- what comes behind
    have fin : ∀ (es : List D) (m' : Nat), m' + 1 ≤ m + 6 * (PyData.depthAll ds + 1 + 1) → SmL (2 * cntL ds + 5) (PyData.depthAll ds + 2) es → (ifM (bindM (op2 dEq (lift ((some (PyData.tuple ds)).map fun d => PyData.bool (isTy "tuple" d))) (op2 dGt (drawM (consM (lift (some (PyData.int 12))) nilM) (G1 m__law_take)) (lift (some (PyData.int 0))))) asB) (lift (C1 dTup (some (PyData.list es)))) (lift (some (PyData.list es)))) q m' := fun es m' h' hes => by
      have t : Sp 1 (bindM (op2 dEq (lift ((some (PyData.tuple ds)).map fun d => PyData.bool (isTy "tuple" d))) (op2 dGt (drawM (consM (lift (some (PyData.int 12))) nilM) (G1 m__law_take)) (lift (some (PyData.int 0))))) asB) (fun _ => True) := by
        refine (sp_bind (k := 0 + 1) (Φd := fun d => ∃ b : Bool, d = .bool b) (sp_op2 (f := dEq) (sp_lift (a := PyData.bool true) rfl) (sp_gt0 (n := 12) (by decide) (by decide)) fun x y hx hy => ?_) fun d hd => ?_).mono (by omega) fun _ h => h
        · obtain ⟨b, rfl⟩ := hy
          subst hx
          refine ⟨.bool (PyData.eqv (.bool true) (.bool b)), ?_, _, rfl⟩
          unfold dEq
          rw [if_pos (eqOk_bool true b)]
        · obtain ⟨b, rfl⟩ := hd
          exact ⟨b, rfl, trivial⟩
      refine t _ m' (by omega) fun b m2 h2 _ => ?_
      cases b with
      | true => exact ⟨_, rfl, hq _ m2 (by omega) (hes.tup.mono (by simp only [cnt]; omega) (by omega))⟩
      | false => exact ⟨_, rfl, hq _ m2 (by omega) (hes.lst.mono (by simp only [cnt]; omega) (by omega))⟩
    have whole : SmL (cntL ds) (PyData.depthAll ds) ds := ⟨hnice, Nat.le_refl _, Nat.le_refl _⟩
    have e7 : (b2 dLt (some (PyData.int (v : Nat))) (some (PyData.int 7))).bind asB = some (decide (v < 7)) := congrArg (·.bind asB) (lt_nat v 7)
    unfold joinK
    by_cases z : v < 7
    · rw [decide_eq_true z] at e7
      refine ifK_t e7 ?_
      have hin : ds[k] ∈ ds := List.getElem_mem hk
      have hdk := depth_mem hin
      have hck := cnt_mem hin
      refine (sp_op2 (f := dIx) (Φ := fun d => d = ds[k]) (sp_lift (a := PyData.list ds) rfl) (sp_lift (a := PyData.int (k : Nat)) rfl) fun x y hx hy => ?_).use (by omega) fun d m4 h4 hd4 => ?_
      · subst hx; subst hy
        refine ⟨ds[k], ?_, rfl⟩
        rw [dIx_list (by omega) (by omega), Int.toNat_natCast]
        exact List.getElem?_eq_getElem hk
      subst hd4
      refine (sp_bent_at n ds[k] (nestL_iff.mp hnl _ hin) (by omega) (by omega)).use (by omega) fun e m5 h5 he => ?_
      refine ⟨_, rfl, (k : Int), k, rfl, ixN_nat' hk, fin _ m5 (by omega) ⟨niceL_iff.mpr fun x hx => ?_, ?_, depthAll_le fun x hx => ?_⟩⟩
      · rcases List.mem_or_eq_of_mem_set hx with hx | hx
        · exact niceL_iff.mp hnice x hx
        · rw [hx]; exact he.1
      · have := cntL_set ds k e hk
        have := he.2.1
        omega
      · rcases List.mem_or_eq_of_mem_set hx with hx | hx
        · have := depth_mem hx
          omega
        · rw [hx]
          have := he.2.2
          omega
    · rw [decide_eq_false z] at e7
      refine ifK_f e7 ?_
      have sl1 : slO (some (.list ds)) (some none) ((some (PyData.int (k : Nat))).bind asI) = some (.list (ds.take k)) := by
        rw [asI_int, slO_some]
        show some (PyData.list (cutD _ none (some (k : Int)))) = _
        rw [cutD_lo]
      have sl2 : slO (some (.list ds)) ((b2 dAdd (some (PyData.int (k : Nat))) (some (PyData.int 1))).bind asI) (some none) = some (.list (ds.drop (k + 1))) := by
        rw [show b2 dAdd (some (PyData.int (k : Nat))) (some (PyData.int 1)) = some (.int ((k + 1 : Nat) : Int)) from add_nat k 1, asI_int, slO_some]
        show some (PyData.list (cutD _ (some ((k + 1 : Nat) : Int)) none)) = _
        unfold cutD
        rw [HT.sIx_none, HT.sIx_nat, Nat.min_eq_left (by omega), List.take_of_length_le (by simp)]
      have sl3 : slO (some (.list ds)) ((some (PyData.int (k : Nat))).bind asI) ((b2 dAdd (some (PyData.int (k : Nat))) (some (PyData.int 1))).bind asI) = some (.list [ds[k]]) := by
        rw [show b2 dAdd (some (PyData.int (k : Nat))) (some (PyData.int 1)) = some (.int ((k + 1 : Nat) : Int)) from add_nat k 1, asI_int, asI_int, slO_some]
        show some (PyData.list (cutD _ (some (k : Int)) (some ((k + 1 : Nat) : Int)))) = _
        unfold cutD
        rw [HT.sIx_nat, HT.sIx_nat, Nat.min_eq_left (by omega), Nat.min_eq_left (by omega), Nat.add_sub_cancel_left, List.drop_eq_getElem_cons hk]
        rfl
      have hz : (1000 : Nat) + 1000 ≤ sizeLine := by decide
      have a1 : b2 dAdd (some (.list (ds.take k))) (some (.list (ds.drop (k + 1)))) = some (.list (ds.take k ++ ds.drop (k + 1))) := add_lists _ _ (by rw [List.length_take, List.length_drop]; omega)
      have a2 : b2 dAdd (some (.list ds)) (some (.list [ds[k]])) = some (.list (ds ++ [ds[k]])) := add_lists _ _ (by simp; omega)
      have a3 : b2 dSub (some (PyData.int (v : Nat))) (some (PyData.int 7)) = some (.int ((v - 7 : Nat) : Int)) := sub_nat (b := 7) (by omega)
      have all : ∀ e ∈ [PyData.list (ds.take k ++ ds.drop (k + 1)), .list (ds ++ [ds[k]]), .list ds.reverse], ∃ es, e = .list es ∧ SmL (2 * cntL ds + 5) (PyData.depthAll ds + 2) es := fun e he => by
        simp only [List.mem_cons, List.not_mem_nil, or_false] at he
        rcases he with rfl | rfl | rfl
        · refine ⟨_, rfl, (whole.sub ?_).mono (by omega) (by omega)⟩
          have := List.Sublist.append (List.Sublist.refl (ds.take k)) (List.drop_sublist_drop_left ds (Nat.le_succ k))
          rwa [List.take_append_drop] at this
        · refine ⟨_, rfl, (whole.app (whole.sub (List.singleton_sublist.mpr (List.getElem_mem hk)))).mono (by omega) (by omega)⟩
        · exact ⟨_, rfl, (whole.perm (List.reverse_perm ds)).mono (by omega) (by omega)⟩
      have ix : ∃ es, b2 dIx (some (.list [PyData.list (ds.take k ++ ds.drop (k + 1)), .list (ds ++ [ds[k]]), .list ds.reverse])) (some (.int ((v - 7 : Nat) : Int))) = some (.list es) ∧ SmL (2 * cntL ds + 5) (PyData.depthAll ds + 2) es := by
        have hlt : v - 7 < [PyData.list (ds.take k ++ ds.drop (k + 1)), .list (ds ++ [ds[k]]), .list ds.reverse].length := by simp; omega
        obtain ⟨es, e1, e2⟩ := all _ (List.getElem_mem hlt)
        refine ⟨es, ?_, e2⟩
        rw [← e1, b2_some, dIx_list (by omega) (by omega), Int.toNat_natCast]
        exact List.getElem?_eq_getElem hlt
      obtain ⟨es, e1, e2⟩ := ix
      refine ⟨.list es, ?_, fin es m3 (by omega) e2⟩
      rw [sl1, sl2, sl3, a1, a2, a3]
      exact e1
  | _ + 1, .none, h, _, _ => by cases h
  | _ + 1, .bool _, h, _, _ => by cases h
  | _ + 1, .str _, h, _, _ => by cases h
  | _ + 1, .list _, h, _, _ => by cases h
  | _ + 1, .dict _, h, _, _ => by cases h
theorem sp_bent {d : D} (hn : nest d = true) (hd : d.depth < 40) (hc : cnt d ≤ 1000) : Sp (6 * (d.depth + 1)) (r__law_bent d) (Sm (2 * cnt d + 5) (d.depth + 2)) := by
  unfold r__law_bent
  exact sp_bent_at 40 d hn hd hc
end Dl

set_option Elab.async false
set_option linter.all false
set_option autoImplicit false
set_option maxRecDepth 100000
set_option maxHeartbeats 1000000
namespace Dl
open PySem L2
/-! ### tests over all of a list -/
theorem lcO_id {f h : D → Option D} {g : D → D} {oi : Option (List D)} (ds : List D) (hi : oi = some ds) (hl : ds.length < sizeLine) (hf : ∀ x ∈ ds, f x = some (g x)) : lcO oi (fun d => turnO (some true) (f d)) = some (ds.map g) :=
  lcO_map (g := id) (h := g) ds (by rw [hi, List.map_id]) hl hf
theorem lcO_bools {f : D → Option D} {p : D → Bool} {oi : Option (List D)} (ds : List D) (hi : oi = some ds) (hl : ds.length < sizeLine) (hf : ∀ x ∈ ds, f x = some (.bool (p x))) : lcO oi (fun d => turnO (some true) (f d)) = some (ds.map fun x => .bool (p x)) :=
  lcO_map (g := id) (h := fun x => .bool (p x)) ds (by rw [hi, List.map_id]) hl hf
theorem lcO_same {oi : Option (List D)} (ds : List D) (hi : oi = some ds) (hl : ds.length < sizeLine) : lcO oi (fun d => turnO (some true) (some d)) = some ds := by
  have := lcO_map (f := fun d => some d) (g := id) (h := id) (oi := oi) ds (by rw [hi, List.map_id]) hl fun x _ => rfl
  rwa [List.map_id] at this
theorem all_eval (ds : List D) (p : D → Bool) : C1 dAll ((some (ds.map fun x => PyData.bool (p x))).map PyData.list) = some (.bool (ds.all p)) := by
  show dAll (.list (ds.map fun x => PyData.bool (p x))) = _
  have e : ds.map (fun x => PyData.bool (p x)) = (ds.map p).map PyData.bool := by rw [List.map_map]; rfl
  unfold dAll
  simp only [e]
  rw [blsOf_map]
  simp [List.all_map]
theorem plain_bools : ∀ bs : List Bool, PyData.plainAll (bs.map PyData.bool) = true ∧ PyData.depthAll (bs.map PyData.bool) = 0
  | [] => ⟨rfl, rfl⟩
  | b :: bs => by
    obtain ⟨h1, h2⟩ := plain_bools bs
    simp [PyData.plainAll, PyData.plain, PyData.depthAll, PyData.depth, h1, h2]
theorem false_in (ds : List D) (p : D → Bool) : (b2 (dIn false) (some (PyData.bool false)) ((some (ds.map fun x => PyData.bool (p x))).map PyData.list)).bind asB = some (!ds.all p) := by
  have e : ds.map (fun x => PyData.bool (p x)) = (ds.map p).map PyData.bool := by rw [List.map_map]; rfl
  show (dIn false (.bool false) (.list (ds.map fun x => PyData.bool (p x)))).bind asB = _
  unfold dIn
  simp only [e]
  obtain ⟨h1, h2⟩ := plain_bools (ds.map p)
  rw [if_pos (by unfold inOk; rw [h1]; simp [PyData.plain, PyData.depth])]
  show some ((List.map PyData.bool (List.map p ds)).any fun y => PyData.eqv y (.bool false)) = _
  congr 1
  induction ds with
  | nil => rfl
  | cons d ds ih =>
    have hp := plain_bools (ds.map p)
    simp only [List.map_cons, List.any_cons, List.all_cons]
    rw [ih (by rw [List.map_map]; rfl) hp.1 hp.2]
    cases p d <;> simp [PyData.eqv]
/-! ### ints compared -/
theorem eq_intB (i j : Int) : b2 dEq (some (PyData.int i)) (some (.int j)) = some (.bool (decide (i = j))) := by
  rw [b2_some]
  unfold dEq
  rw [if_pos (eqOk_int i j)]
  congr 2
theorem ne_intB (i j : Int) : b2 dNe (some (PyData.int i)) (some (.int j)) = some (.bool (decide (i ≠ j))) := by
  rw [b2_some]
  unfold dNe
  rw [if_pos (eqOk_int i j)]
  congr 2
  by_cases h : i = j
  · subst h; simp [PyData.eqv]
  · simp [PyData.eqv, h]
theorem eq_nil (ds : List D) : (b2 dEq (some (PyData.tuple ds)) ((some []).map PyData.tuple)).bind asB = some ds.isEmpty := by
  show (dEq (.tuple ds) (.tuple [])).bind asB = _
  unfold dEq
  rw [if_pos (by simp [eqOk, isE]), eqv_nil]
  rfl
theorem len_tupD (ds : List D) : C1 dLen (some (PyData.tuple ds)) = some (.int (ds.length : Nat)) := rfl
/-! ### places, sizes -/
def isPl (n : Nat) : D → Bool
  | .int i => decide (0 ≤ i ∧ i < n)
  | _ => false
def isSz : D → Bool
  | .int i => decide (1 ≤ i)
  | _ => false
theorem isInt_eval (d : D) : C1 m_is_integer (some d) = some (.bool (match d with | .int _ => true | _ => false)) := by
  rw [c1_some]
  unfold m_is_integer
  cases d <;> rfl
theorem isWhole_eval (d : D) : C1 m__law_is_whole (some d) = some (.bool (match d with | .int _ => true | _ => false)) := by
  rw [c1_some]
  unfold m__law_is_whole
  cases d <;> rfl
theorem chain_pl (i : Int) (n : Nat) : chainO dLe dLt (some (PyData.int 0)) (some (PyData.int i)) (some (.int (n : Nat))) = some (.bool (decide (0 ≤ i ∧ i < n))) := by
  show ((some (PyData.bool (decide (0 ≤ i)))).bind asB).bind (fun t => if t = true then some (PyData.bool (decide (i < (n : Int)))) else some (.bool false)) = _
  show (if decide (0 ≤ i) = true then some (PyData.bool (decide (i < (n : Int)))) else some (.bool false)) = _
  by_cases h : 0 ≤ i
  · rw [if_pos (decide_eq_true h)]
    simp [h]
  · rw [if_neg (by simpa using h)]
    simp [h]
theorem place_any (o : Option D) (d : D) (n : Nat) (ho : o = some (.bool (match d with | .int _ => true | _ => false))) : andV o (chainO dLe dLt (some (PyData.int 0)) (some d) (some (.int (n : Nat)))) = some (.bool (isPl n d)) := by
  rw [ho]
  cases d with
  | int i => exact chain_pl i n
  | _ => rfl
theorem isPlace_eval (n : Nat) (d : D) : C2 m_is_place (some (.int (n : Nat))) (some d) = some (.bool (isPl n d)) := by
  rw [c2_some]
  unfold m_is_place
  exact place_any _ d n (isInt_eval d)
theorem size_any (o : Option D) (d : D) (ho : o = some (.bool (match d with | .int _ => true | _ => false))) : andV o (b2 dGe (some d) (some (PyData.int 1))) = some (.bool (isSz d)) ∧ andV o (b2 dGt (some d) (some (PyData.int 0))) = some (.bool (isSz d)) := by
  rw [ho]
  cases d with
  | int i =>
    refine ⟨rfl, ?_⟩
    show some (PyData.bool (decide (0 < i))) = some (.bool (decide (1 ≤ i)))
    congr 2
  | _ => exact ⟨rfl, rfl⟩
theorem pl_int {n : Nat} {d : D} (h : isPl n d = true) : ∃ i : Int, d = .int i := by
  cases d with
  | int i => exact ⟨i, rfl⟩
  | _ => cases h
theorem sz_int {d : D} (h : isSz d = true) : ∃ i : Int, d = .int i := by
  cases d with
  | int i => exact ⟨i, rfl⟩
  | _ => cases h
theorem all_ints {p : D → Bool} (hp : ∀ d, p d = true → ∃ i : Int, d = .int i) : ∀ {ds : List D}, ds.all p = true → ∃ ns : List Int, ds = ns.map PyData.int
  | [], _ => ⟨[], rfl⟩
  | d :: ds, h => by
    simp only [List.all_cons, Bool.and_eq_true] at h
    obtain ⟨i, rfl⟩ := hp d h.1
    obtain ⟨ns, rfl⟩ := all_ints hp h.2
    exact ⟨i :: ns, rfl⟩
/-- without doubles -/
def oneE (ds : List D) : Bool := match intsOf ds with
  | some ns => decide ((dd ns).length = ns.length)
  | none => false
theorem oneE_lk {ns : List Int} : b2 dEq ((some (ns.map PyData.int)).bind dLK) (C1 dLen (some (PyData.tuple (ns.map PyData.int)))) = some (.bool (oneE (ns.map PyData.int))) := by
  have e : (some (ns.map PyData.int)).bind dLK = some (.int ((dd ns).length : Nat)) := by
    show dLK (ns.map PyData.int) = _
    unfold dLK
    rw [intsOf_map]
    rfl
  rw [e, len_tupD, List.length_map, eq_nat]
  unfold oneE
  rw [intsOf_map]
theorem oneE_set {ns : List Int} (h : ns.length < 4000) : b2 dEq (C1 dLenS (some (PyData.tuple (ns.map PyData.int)))) (C1 dLen (some (PyData.tuple (ns.map PyData.int)))) = some (.bool (oneE (ns.map PyData.int))) := by
  have e : C1 dLenS (some (PyData.tuple (ns.map PyData.int))) = some (.int ((dd ns).length : Nat)) := by
    show (dItems (.tuple (ns.map PyData.int))).bind (fun ds => (intsOf ds).bind fun ns => if ns.length < 4000 then some (PyData.int ((dd ns).length : Nat)) else none) = _
    show (intsOf (ns.map PyData.int)).bind (fun ns => if ns.length < 4000 then some (PyData.int ((dd ns).length : Nat)) else none) = _
    rw [intsOf_map]
    exact if_pos h
  rw [e, len_tupD, List.length_map, eq_nat]
  unfold oneE
  rw [intsOf_map]
theorem sum_eval (ns : List Int) : C1 dSum (some (PyData.tuple (ns.map PyData.int))) = some (.int ns.sum) := by
  show (intsOf (ns.map PyData.int)).map (fun ns => PyData.int ns.sum) = _
  rw [intsOf_map]
  rfl
theorem Fine.short {ds : List D} (h : Fine (.tuple ds)) : ds.length < sizeLine ∧ ds.length ≤ 1000 := by
  have h1 := h.2.1
  have h2 := cntL_len ds
  simp only [cnt] at h1
  rw [sizeLine_eq]
  omega
theorem Fine.mem {ds : List D} {d : D} (h : Fine (.tuple ds)) (hd : d ∈ ds) : Fine d := ⟨niceL_iff.mp h.1 d hd, by
  have h1 := h.2.1
  have := cnt_mem hd
  simp only [cnt] at h1
  omega, by
  have h1 := h.2.2
  have := depth_mem hd
  simp only [PyData.depth] at h1
  omega⟩
/-! ### expressions that give small data -/
def EO (o : Option D) (c e : Nat) : Prop := ∃ d, o = some d ∧ Sm c e d
def EL (os : Option (List D)) (c e : Nat) : Prop := ∃ ds, os = some ds ∧ SmL c e ds
theorem EO.of {d : D} {c e : Nat} (h : Sm c e d) : EO (some d) c e := ⟨d, rfl, h⟩
theorem EO.mono {o : Option D} {c e c2 e2 : Nat} (h : EO o c e) (hc : c ≤ c2 := by omega) (he : e ≤ e2 := by omega) : EO o c2 e2 := by
  obtain ⟨d, h1, h2⟩ := h
  exact ⟨d, h1, h2.mono hc he⟩
theorem el_nil {e : Nat} : EL (some []) 0 e := ⟨[], rfl, smL_nil⟩
theorem EL.cons {o : Option D} {os : Option (List D)} {a b e e1 e2 : Nat} (h : EO o a e1) (hs : EL os b e2) (h1 : e1 ≤ e := by omega) (h2 : e2 ≤ e := by omega) : EL (consO o os) (a + b) e := by
  obtain ⟨d, rfl, h3⟩ := h
  obtain ⟨ds, rfl, h4⟩ := hs
  exact ⟨d :: ds, rfl, SmL.cons (h3.mono (Nat.le_refl _) h1) (h4.mono (Nat.le_refl _) h2)⟩
theorem EL.tup {os : Option (List D)} {c e : Nat} (h : EL os c e) : EO (os.map PyData.tuple) (c + 1) (e + 1) := by
  obtain ⟨ds, rfl, h⟩ := h
  exact ⟨_, rfl, h.tup⟩
theorem EL.lst {os : Option (List D)} {c e : Nat} (h : EL os c e) : EO (os.map PyData.list) (c + 1) (e + 1) := by
  obtain ⟨ds, rfl, h⟩ := h
  exact ⟨_, rfl, h.lst⟩
/-- (a, b) -/
theorem EO.pair {oa ob : Option D} {a b e1 e2 : Nat} (ha : EO oa a e1) (hb : EO ob b e2) : EO ((consO oa (consO ob (some []))).map PyData.tuple) (a + (b + 0) + 1) (max e1 e2 + 1) := EL.tup (EL.cons (e := max e1 e2) ha (EL.cons (e := e2) (e2 := 0) hb el_nil))
theorem EO.one {oa : Option D} {a e : Nat} (ha : EO oa a e) : EL (consO oa (some [])) (a + 0) e := EL.cons (e2 := 0) ha el_nil
theorem eo_int {i : Int} (h : i.natAbs < 1000000) : EO (some (.int i)) 1 0 := EO.of (sm_int (Nat.lt_trans h (by decide)))
theorem eo_addT {xs : List D} {c e c2 e2 : Nat} {os : Option (List D)} (h : SmL c e xs) (hs : EL os c2 e2) (hz : c + c2 ≤ 1000 := by omega) : EO (b2 dAdd (some (.tuple xs)) (os.map PyData.tuple)) (c + c2 + 1) (max e e2 + 1) := by
  obtain ⟨ys, rfl, hy⟩ := hs
  have h1 := cntL_len xs
  have h2 := cntL_len ys
  have := h.2.1
  have := hy.2.1
  exact ⟨_, add_tups xs ys (by rw [sizeLine_eq]; omega), (SmL.app (h.mono (e2 := max e e2) (Nat.le_refl _) (by omega)) (hy.mono (e2 := max e e2) (Nat.le_refl _) (by omega))).tup⟩
/-- lists of values that can be shown -/
def VO (os : Option (List D)) (k : Nat) : Prop := ∃ ds, os = some ds ∧ ds.length ≤ k ∧ ∀ d ∈ ds, Fine d
theorem vo_nil : VO (some []) 0 := ⟨[], rfl, Nat.le_refl _, fun _ h => nomatch h⟩
theorem VO.cons {o : Option D} {os : Option (List D)} {c e k : Nat} (h : EO o c e) (hs : VO os k) (hc : c ≤ 1000 := by omega) (he : e ≤ 60 := by omega) : VO (consO o os) (k + 1) := by
  obtain ⟨d, rfl, h1⟩ := h
  obtain ⟨ds, rfl, h2, h3⟩ := hs
  refine ⟨d :: ds, rfl, by simp; exact h2, fun x hx => ?_⟩
  rcases List.mem_cons.mp hx with rfl | hx
  · exact h1.fine hc he
  · exact h3 x hx
theorem VO.add {ds : List D} {k j : Nat} {os : Option (List D)} (h : ds.length ≤ k ∧ ∀ d ∈ ds, Fine d) (hs : VO os j) (hz : k + j ≤ 1000 := by omega) : ∃ es, b2 dAdd (some (PyData.list ds)) (os.map PyData.list) = some (.list es) ∧ es.length ≤ k + j ∧ ∀ d ∈ es, Fine d := by
  obtain ⟨es, rfl, h2, h3⟩ := hs
  refine ⟨ds ++ es, add_lists ds es (by rw [sizeLine_eq]; omega), by simp; omega, fun e he => ?_⟩
  rcases List.mem_append.mp he with he | he
  · exact h.2 e he
  · exact h3 e he
theorem VO.cat {ds : List D} {k j : Nat} {os : Option (List D)} (h : ds.length ≤ k ∧ ∀ d ∈ ds, Fine d) (hs : VO os j) (hz : k + j ≤ 1000 := by omega) : VO (C2 dCatL (some (PyData.list ds)) (os.map PyData.list)) (k + j) := by
  obtain ⟨es, rfl, h2, h3⟩ := hs
  refine ⟨ds ++ es, ?_, by simp; omega, fun e he => ?_⟩
  · show dCatL (.list ds) (.list es) = _
    exact if_pos (by rw [sizeLine_eq]; omega)
  · rcases List.mem_append.mp he with he | he
    · exact h.2 e he
    · exact h3 e he
/-- .. drawn ones -/
def isVals (k : Nat) (d : D) : Prop := ∃ ds, d = .list ds ∧ (ds.length ≤ k ∧ ∀ e ∈ ds, Fine e)
theorem isVals_add {a b : Nat} {x y : D} (hx : isVals a x) (hy : isVals b y) (hab : a + b ≤ 1000) : ∃ z, dAdd x y = some z ∧ isVals (a + b) z := by
  obtain ⟨xs, rfl, x1, x2⟩ := hx
  obtain ⟨ys, rfl, y1, y2⟩ := hy
  refine ⟨_, if_pos (by rw [sizeLine_eq]; omega), _, rfl, by simp; omega, fun e he => ?_⟩
  rcases List.mem_append.mp he with he | he
  · exact x2 e he
  · exact y2 e he
theorem sp_vals {k a : Nat} {ds : List D} (h : ds.length ≤ a ∧ ∀ d ∈ ds, Fine d) : Sp 0 (lift (some (PyData.list ds))) (isVals a) := (sp_lift rfl).mono (Nat.le_refl _) fun _ e => ⟨_, e, h⟩
theorem sp_addV {k k2 a b : Nat} {Ta Tb : M D} (ha : Sp k Ta (isVals a)) (hb : Sp k2 Tb (isVals b)) (hab : a + b ≤ 1000 := by omega) : Sp (k + k2) (op2 dAdd Ta Tb) (isVals (a + b)) := sp_op2 ha hb fun _ _ hx hy => isVals_add hx hy hab
/-- so many bent values -/
theorem sp_bents {r c e : Nat} {d : D} (hn : nest d = true) (hs : Sm c e d) (he : e < 38) (hc : 2 * c + 5 ≤ 1000) (hr : r < 100) : Sp (r * (6 * (e + 1))) (lstM (lcM (lift (C1 (fun x => dRange [x]) (some (PyData.int (r : Nat))))) fun _ => turnM (lift (some true)) (drawM (consM (lift (some d)) nilM) (G1 r__law_bent)))) (isVals r) := by
  refine (sp_lst (sp_lcv (k := 6 * (e + 1)) (k2 := 0) (L := r) (Φ := Fine) ?_ (by rw [sizeLine_eq]; omega) fun _ => ?_)).mono (by omega) fun _ h => h
  · exact (sp_lift (range_items (n := r) (by omega))).mono (Nat.le_refl _) fun a h => by rw [h, ofN_len, List.length_range]; exact Nat.le_refl _
  · have h1 := hs.2.1
    have h2 := hs.2.2
    exact fun q m hm hq => ⟨_, rfl, ((sp_bent hn (by omega) (by omega)).mono (k2 := 6 * (e + 1)) (by omega) fun a h => Sm.mono h (by omega) (by omega)) q m hm hq⟩
theorem sp_oddV : Sp 1 (drawM nilM (G0 m__law_odd)) Fine := fun q m hm hq => (sp_odd.mono (Nat.le_refl _) fun _ h => h.fine) q m hm hq
/-- one value, and the next -/
theorem sp_consV {k k2 j : Nat} {T : M D} {Ts : M (List D)} (h : Sp k T Fine) (hs : Sp k2 Ts (fun ds => ds.length ≤ j ∧ ∀ e ∈ ds, Fine e)) : Sp (k + k2) (consM T Ts) (fun ds => ds.length ≤ j + 1 ∧ ∀ e ∈ ds, Fine e) := (sp_cons h hs).mono (Nat.le_refl _) fun ds hd => by
  obtain ⟨d, r, rfl, h1, h2, h3⟩ := hd
  refine ⟨by simp; exact h2, fun e he => ?_⟩
  rcases List.mem_cons.mp he with rfl | he
  · exact h1
  · exact h3 e he
theorem sp_nilV : Sp 0 nilM (fun ds => ds.length ≤ 0 ∧ ∀ e ∈ ds, Fine e) := sp_nil.mono (Nat.le_refl _) fun _ h => by rw [h]; exact ⟨Nat.le_refl _, fun _ h => nomatch h⟩
theorem sp_constV {o : Option D} {c e : Nat} (h : EO o c e) (hc : c ≤ 1000 := by omega) (he : e ≤ 60 := by omega) : Sp 0 (lift o) Fine := by
  obtain ⟨d, rfl, h⟩ := h
  exact (sp_lift rfl).mono (Nat.le_refl _) fun _ e => by rw [e]; exact h.fine hc he
/-- a comprehension of small data -/
theorem lcO_ex {F : D → Option (Option D)} {P : D → Prop} {oi : Option (List D)} {ds : List D} (hi : oi = some ds) (hl : ds.length < sizeLine) (hf : ∀ d ∈ ds, ∃ z, F d = some (some z) ∧ P z) : ∃ es, lcO oi F = some es ∧ es.length = ds.length ∧ ∀ e ∈ es, P e := by
  have gen : ∀ ds : List D, (∀ d ∈ ds, ∃ z, F d = some (some z) ∧ P z) → ∃ es, cO F ds = some es ∧ es.length = ds.length ∧ ∀ e ∈ es, P e := fun ds => by
    induction ds with
    | nil => exact fun _ => ⟨[], rfl, rfl, fun _ h => nomatch h⟩
    | cons d ds ih =>
      intro h
      obtain ⟨z, h1, h2⟩ := h d List.mem_cons_self
      obtain ⟨es, h3, h4, h5⟩ := ih fun e he => h e (List.mem_cons_of_mem _ he)
      refine ⟨z :: es, ?_, by simp [h4], fun e he => ?_⟩
      · show (F d).bind (fun o => (cO F ds).bind fun r => some (match o with | some x => x :: r | none => r)) = _
        rw [h1, h3]
        rfl
      · rcases List.mem_cons.mp he with rfl | he
        · exact h2
        · exact h5 e he
  obtain ⟨es, h1, h2⟩ := gen ds hf
  refine ⟨es, ?_, h2⟩
  rw [hi]
  show (if ds.length < sizeLine then cO F ds else none) = _
  rw [if_pos hl, h1]
theorem smL_all {ds : List D} {c e : Nat} (h : ∀ d ∈ ds, Sm c e d) : SmL (ds.length * c) e ds := ⟨niceL_iff.mpr fun d hd => (h d hd).1, by
  have := cntL_map (g := id) (c := c) ds fun d hd => (h d hd).2.1
  rwa [List.map_id] at this, depthAll_le fun d hd => (h d hd).2.2⟩
theorem mem_enumD {b : Nat} : ∀ (n : Nat) (ss : List Nat), (∀ s ∈ ss, s ≤ b) → ∀ d ∈ enumD n (ofN ss), ∃ k s : Nat, d = .tuple [.int k, .int s] ∧ s ≤ b
  | _, [], _, d, h => nomatch h
  | n, s :: ss, hs, d, h => by
    rcases List.mem_cons.mp h with rfl | h
    · exact ⟨n, s, rfl, hs s List.mem_cons_self⟩
    · exact mem_enumD (n + 1) ss (fun t ht => hs t (List.mem_cons_of_mem _ ht)) d h
theorem same_bool (n : Nat) (b : Bool) : m__law_same (n + 1) (.bool b) (.bool b) = some (.bool true) := by
  have e : b2 dEq (some (PyData.bool b)) (some (.bool b)) = some (.bool true) := by
    rw [b2_some]
    unfold dEq
    rw [if_pos (eqOk_bool b b)]
    simp [PyData.eqv]
  show b__law_same _ _ _ = _
  unfold b__law_same
  rw [e]
  rfl
theorem same_bools (b : Bool) : C2 r__law_same (some (.bool b)) (some (.bool b)) = some (.bool true) := by
  rw [c2_some]
  unfold r__law_same
  exact same_bool 39 b
end Dl

set_option Elab.async false
set_option linter.all false
set_option autoImplicit false
set_option maxRecDepth 100000
set_option maxHeartbeats 4000000
namespace Dl
open PySem L2 PySem.Spec PyProof.Rows
/-! ### zip(t, u, strict=True) of two tuples of one length -/
abbrev strictK : List (Str × Value) := [("strict", .bool true)]
theorem zs_type (a b : Value) : checkTypeCall "zip" ⟨[a, b], strictK⟩ = pure () := by kernel_rfl
theorem zs_new (a b : Value) : checkBuiltinCall "zip.__new__" ⟨[.type "zip", a, b], strictK⟩ = pure () := by kernel_rfl
theorem zs_init (o a b : Value) : argsOk "object.__init__" ⟨[o, a, b], strictK⟩ := by
  unfold argsOk
  rw [signature?_of (id := "object.__init__") (n := ['_', '_', 't', 'i', 'n', 'i', '_', '_']) (o := ['t', 'c', 'e', 'j', 'b', 'o']) (by kernel_rfl) F.owner_object]
  kernel_rfl
abbrev zipRec (TI TO : Addr) (f0 : Value) : Obj := { cls := .type "zip", dict := none, data := .fields #[f0, .bool false, .bool true, .ref TI, .ref TO], slots := #[] }
abbrev ZipS (h : Heap) (z TI TO : Addr) (f0 : Value) : Prop := h.get? z = some (zipRec TI TO f0)
abbrev hz1 (h : Heap) (l1 : Addr) : Heap := h.push { cls := .type "tuple_iterator", data := .fields #[.ref l1, .int 0 0] }
abbrev hz2 (h : Heap) (l1 l2 : Addr) : Heap := (hz1 h l1).push { cls := .type "tuple_iterator", data := .fields #[.ref l2, .int 0 0] }
abbrev hz3 (h : Heap) (l1 l2 : Addr) : Heap := (hz2 h l1 l2).push { cls := .type "tuple", data := .seq #[.ref h.objs.size, .ref (hz1 h l1).objs.size] }
abbrev hz4 (h : Heap) (l1 l2 : Addr) : Heap := (hz3 h l1 l2).push { cls := .type "tuple", data := .seq #[.none, .none] }
abbrev hz5 (h : Heap) (l1 l2 : Addr) : Heap := (hz4 h l1 l2).push (zipRec (hz2 h l1 l2).objs.size (hz3 h l1 l2).objs.size .none)
theorem zs_made (l1 l2 : Addr) (xs ys : Array Value) :
    Meets (Builtin.«zip.__new__» ⟨[.type "zip", .ref l1, .ref l2], strictK⟩) (fun _ R s => s.heap.IsTuple l1 xs ∧ s.heap.IsTuple l2 ys ∧ R (.ok (.ret (.ref (hz4 s.heap l1 l2).objs.size))) { s with heap := hz5 s.heap l1 l2 }) :=
  .of_wp fun prog w A R s h => by
    obtain ⟨hp, g, d, tk, os⟩ := s
    obtain ⟨t1, t2, h⟩ := h
    have hsub := sub_zip
    have u1 : Heap.IsTuple (Shared.heap ⟨hp, g, d, tk, os⟩) l1 xs := t1
    have u2 : Heap.IsTuple (Shared.heap ⟨hz1 hp l1, g, d, tk, os⟩) l2 ys := Heap.IsTuple.push t2 _
    wp_walk using wpAny_pyIter_tuple u1, wpAny_pyIter_tuple u2
    exact ⟨_, rfl, h⟩
section
variable {prog : Program} {w : World} {A : Around} {E : Value → Shared → Prop} {s : Shared}
theorem call_zs {l1 l2 : Addr} {xs ys : Array Value} {Q : Value → Shared → Prop} (t1 : s.heap.IsTuple l1 xs) (t2 : s.heap.IsTuple l2 ys)
    (h : ∀ h', ZipS h' (s.heap.objs.size + 4) (s.heap.objs.size + 2) (s.heap.objs.size + 3) .none → IsPair h' (s.heap.objs.size + 2) (.ref s.heap.objs.size) (.ref (s.heap.objs.size + 1)) → IsPair h' (s.heap.objs.size + 3) .none .none →
      h'.IsTupleIter s.heap.objs.size l1 0 → h'.IsTupleIter (s.heap.objs.size + 1) l2 0 → (∀ c o, s.heap.get? c = some o → h'.get? c = some o) → Q (.ref (s.heap.objs.size + 4)) { s with heap := h' }) :
    wpAny (model prog w) A (call (.type "zip") [.ref l1, .ref l2] strictK) Q E s := by
  have n1 : (hz1 s.heap l1).objs.size = s.heap.objs.size + 1 := Heap.size_push ..
  have n2 : (hz2 s.heap l1 l2).objs.size = s.heap.objs.size + 2 := by rw [Heap.size_push, n1]
  have n3 : (hz3 s.heap l1 l2).objs.size = s.heap.objs.size + 3 := by rw [Heap.size_push, n2]
  have n4 : (hz4 s.heap l1 l2).objs.size = s.heap.objs.size + 4 := by rw [Heap.size_push, n3]
  have g5 : (hz5 s.heap l1 l2).get? (hz4 s.heap l1 l2).objs.size = some (zipRec (hz2 s.heap l1 l2).objs.size (hz3 s.heap l1 l2).objs.size .none) := Heap.get?_push_size _ rfl
  have g4 : (hz5 s.heap l1 l2).get? (hz3 s.heap l1 l2).objs.size = some { cls := .type "tuple", data := .seq #[.none, .none] } := Heap.get?_push_of_some _ (Heap.get?_push_size _ rfl)
  have g3 : (hz5 s.heap l1 l2).get? (hz2 s.heap l1 l2).objs.size = some { cls := .type "tuple", data := .seq #[.ref s.heap.objs.size, .ref (hz1 s.heap l1).objs.size] } := Heap.get?_push_of_some _ (Heap.get?_push_of_some _ (Heap.get?_push_size _ rfl))
  have g2 : (hz5 s.heap l1 l2).get? (hz1 s.heap l1).objs.size = some { cls := .type "tuple_iterator", data := .fields #[.ref l2, .int 0 0] } := Heap.get?_push_of_some _ (Heap.get?_push_of_some _ (Heap.get?_push_of_some _ (Heap.get?_push_size _ rfl)))
  have g1 : (hz5 s.heap l1 l2).get? s.heap.objs.size = some { cls := .type "tuple_iterator", data := .fields #[.ref l1, .int 0 0] } := Heap.get?_push_of_some _ (Heap.get?_push_of_some _ (Heap.get?_push_of_some _ (Heap.get?_push_of_some _ (Heap.get?_push_size _ rfl))))
  have keep : ∀ c o, s.heap.get? c = some o → (hz5 s.heap l1 l2).get? c = some o := fun c o q => Heap.get?_push_of_some _ (Heap.get?_push_of_some _ (Heap.get?_push_of_some _ (Heap.get?_push_of_some _ (Heap.get?_push_of_some _ q))))
  obtain ⟨_, _, hmro⟩ := F.called_zip.mro
  have m1 := F.called_zip.made
  have m2 := F.called_zip.sub
  refine wpAny_call (codeAny_of_tree (?_ : wpAny _ _ (callAny (.type "zip") _) _ _ _))
  refine wpAny_pure ⟨Code.quiet_builtin _ (by decide +kernel), codeAny_builtin F.entry_type_call ?_⟩
  rw [Around.under_plain (weight_type_call_type "zip" [.ref l1, .ref l2] strictK) rfl]
  have m3 := F.called_zip.notType
  have m4 := F.called_zip.canCreate
  have m5 := zs_type (.ref l1) (.ref l2)
  repeat (any_goals (first | assumption | wp_step))
  refine codeAny_mono (codeAny_call_builtin F.called_zip.plain F.entry_zip_new (wpAny_of_eq (zs_new (.ref l1) (.ref l2)) (zs_made l1 l2 xs ys prog w A.in1 (wants (fun obj z => obj = .ref (hz4 s.heap l1 l2).objs.size ∧ z = { s with heap := hz5 s.heap l1 l2 }) E) s ⟨t1, t2, rfl, rfl⟩))) fun r z hr => ?_
  cases r with
  | error e => exact hr
  | ok fl =>
    cases fl with
    | ret obj =>
      obtain ⟨rfl, rfl⟩ := hr
      have hT : Shared.TypeIs { s with heap := hz5 s.heap l1 l2 } (.ref (hz4 s.heap l1 l2).objs.size) "zip" := ⟨_, g5, rfl⟩
      have m6 := F.called_zip.init.lookup
      have m7 := F.called_zip.init.bind (.ref (hz4 s.heap l1 l2).objs.size)
      repeat (any_goals (first | assumption | wp_step))
      have f8 : (Manifest.find? "zip").isSome = true := by decide +kernel
      have ini : Meets (Builtin.«object.__init__» ⟨[.ref (hz4 s.heap l1 l2).objs.size, .ref l1, .ref l2], strictK⟩) (fun _ R z => z.TypeIs (.ref (hz4 s.heap l1 l2).objs.size) "zip" ∧ R (.ok (.ret .none)) z) := by
        refine Meets.of_wp fun prog w A R z hz => ?_
        obtain ⟨tT, hq⟩ := hz
        have hne : (some "zip.__new__" != some "object.__new__") = true := by decide
        repeat (any_goals (first | assumption | wp_step))
        exact ⟨_, rfl, hq⟩
      refine codeAny_mono (codeAny_call_builtin F.called_zip.init.plain F.entry_object_init (F.called_zip.init.check _ _ _ _ _ _ _ _ hT (zs_init _ _ _) (ini prog w A.in1 (wants (fun r z => r = .none ∧ z = { s with heap := hz5 s.heap l1 l2 }) E) _ ⟨hT, rfl, rfl⟩))) fun r2 z2 hr2 => ?_
      cases r2 with
      | error e => exact hr2
      | ok fl2 =>
        cases fl2 with
        | ret r =>
          obtain ⟨rfl, rfl⟩ := hr2
          repeat (any_goals (first | assumption | wp_step))
          rw [n2, n3, n4] at g5
          rw [n1, n2] at g3
          rw [n3] at g4
          rw [n1] at g2
          rw [n4]
          exact h _ g5 g3 g4 ⟨_, g1, rfl, rfl⟩ ⟨_, g2, rfl, rfl⟩ keep
        | _ => exact hr2.elim
    | _ => exact hr.elim
end
end Dl

set_option Elab.async false
set_option linter.all false
set_option autoImplicit false
set_option maxRecDepth 100000
set_option maxHeartbeats 4000000
namespace Dl
open PySem L2 PySem.Spec PyProof.Rows
/-! ### the steps of zip(t, u, strict=True) -/
section
variable {prog : Program} {w : World} {A : Around} {E : Value → Shared → Prop} {s : Shared}
theorem noe_item {it l : Addr} {i : Nat} {us : Array Value} {x : Value} {Q : Option Value → Shared → Prop} (hit : s.heap.IsTupleIter it l i) (hl : s.heap.IsTuple l us) (hx : us[i]? = some x)
    (hQ : ∀ h', h'.IsTupleIter it l (i + 1) → Heap.SameBut it s.heap h' → Q (some x) { s with heap := h' }) : wpAny (model prog w) A (Builtin.SmallTypes.nextOrEnd (.ref it)) Q E s := by
  unfold Builtin.SmallTypes.nextOrEnd
  exact wpAny_bind (wpAny_attempt (RZ.nextOf_tuple_item hit hl hx fun h' a b => wpAny_pure (hQ h' a b)))
theorem noe_end {it l : Addr} {i : Nat} {us : Array Value} {Q : Option Value → Shared → Prop} (hh : A.handled = none) (hit : s.heap.IsTupleIter it l i) (hl : s.heap.IsTuple l us) (hx : us[i]? = none)
    (hQ : ∀ h', Heap.ExtBut it s.heap h' → Q none { s with heap := h' }) : wpAny (model prog w) A (Builtin.SmallTypes.nextOrEnd (.ref it)) Q E s := by
  unfold Builtin.SmallTypes.nextOrEnd
  refine wpAny_bind (wpAny_attempt (RZ.nextOf_tuple_end hh hit hl hx fun h' e k he => ?_))
  obtain ⟨o, ho, hc⟩ := he
  exact wpAny_bind (wpAny_isInstance (T := "StopIteration") (b := true) ⟨o, ho, hc⟩ isSubtype_stop (wpAny_pure (hQ h' k)))
variable {z TI TO i1 i2 l1 l2 : Addr} {k : Nat} {xs ys : Array Value} {x y a b : Value}
theorem zs_item (D : ZipApart z TI TO i1 i2 l1 l2) (hz : ZipS s.heap z TI TO .none) (hTI : IsPair s.heap TI (.ref i1) (.ref i2)) (hTO : IsPair s.heap TO a b) (h1 : s.heap.IsTupleIter i1 l1 k) (h2 : s.heap.IsTupleIter i2 l2 k) (t1 : s.heap.IsTuple l1 xs) (t2 : s.heap.IsTuple l2 ys)
    (hx : xs[k]? = some x) (hy : ys[k]? = some y) {Q : Value → Shared → Prop}
    (fin : ∀ h', ZipS h' z TI TO (rawInt s.heap.objs.size) → IsPair h' TO x y → h'.IsTupleIter i1 l1 (k + 1) → h'.IsTupleIter i2 l2 (k + 1) → IsPair h' s.heap.objs.size x y →
      (∀ c o, c ≠ z → c ≠ TO → c ≠ i1 → c ≠ i2 → s.heap.get? c = some o → h'.get? c = some o) → Q (.ref s.heap.objs.size) { s with heap := h' }) :
    wpAny (model prog w) A (Builtin.«zip.__next__» ⟨[.ref z], []⟩) (fun f s' => ∃ v, f = .done (.ret v) ∧ Q v s') E s := by
  refine wpAny_bind (m := field (.ref z) 2) (wpAny_field hz rfl (x := .bool true) rfl ?_)
  refine wpAny_bind (m := field (.ref z) 3) (wpAny_field hz rfl (x := .ref TI) rfl (wpAny_bind (wpAny_seqItems hTI rfl ?_)))
  refine wpAny_bind (m := Builtin.SmallTypes.ownedTupleIsFree (.ref z)) ?_
  unfold Builtin.SmallTypes.ownedTupleIsFree
  refine wpAny_bind (wpAny_field hz rfl (x := .none) rfl (wpAny_pure ?_))
  simp only [if_true]
  refine wpAny_bind (wpAny_rule (wpAny_bind (wpAny_field hz rfl (x := .ref TO) rfl (wpAny_bind (wpAny_setField_rec hz (by simp) fun hA zA sA => ?_)))))
  replace zA : ZipS hA z TI TO .ellipsis := zA
  refine wpAny_bind ?_
  simp only [List.zipIdx_cons, List.zipIdx_nil, List.forIn_cons, List.forIn_nil]
  -- the first one's item
  refine wpAny_bind (wpAny_bind (wpAny_onRaise (?_ : wpAny _ _ (Builtin.SmallTypes.nextOrEnd (.ref i1)) _ _ _)))
  refine noe_item (h1.extBut sA.extBut D.i1z) (t1.extBut sA.extBut D.l1z) hx fun hB jB sB => ?_
  have pB : IsPair hB TO a b := sB.extBut _ _ D.TOi1 (sA.extBut _ _ D.TOz hTO)
  refine wpAny_bind (wpAny_seqItems pB rfl (wpAny_bind (wpAny_updateSeq_pair pB fun hC pC sC => wpAny_bind (wpAny_letGo (wpAny_pure ?_)))))
  replace pC : IsPair hC TO x b := pC
  -- the second one's
  refine wpAny_bind (wpAny_bind (wpAny_onRaise (?_ : wpAny _ _ (Builtin.SmallTypes.nextOrEnd (.ref i2)) _ _ _)))
  refine noe_item (((h2.extBut sA.extBut D.i2z).extBut sB.extBut D.i12.symm).extBut sC.extBut D.TOi2.symm) (((t2.extBut sA.extBut D.l2z).extBut sB.extBut D.l2i1).extBut sC.extBut D.l2TO) hy fun hD jD sD => ?_
  have pD : IsPair hD TO x b := sD.extBut _ _ D.TOi2 pC
  refine wpAny_bind (wpAny_seqItems pD rfl (wpAny_bind (wpAny_updateSeq_pair pD fun hE' pE sE => wpAny_bind (wpAny_letGo (wpAny_pure (wpAny_pure ?_))))))
  replace pE : IsPair hE' TO x y := pE
  refine wpAny_bind (wpAny_seqItems pE rfl (wpAny_bind (wpAny_newTuple ?_)))
  -- how the heap stands
  have size : hE'.objs.size = s.heap.objs.size := by rw [sE.1, sD.1, sC.1, sB.1, sA.1]
  have zE : ZipS hE' z TI TO .ellipsis := sE.extBut _ _ D.TOz.symm (sD.extBut _ _ D.i2z.symm (sC.extBut _ _ D.TOz.symm (sB.extBut _ _ D.i1z.symm zA)))
  have keep : ∀ c o, c ≠ z → c ≠ TO → c ≠ i1 → c ≠ i2 → s.heap.get? c = some o → hE'.get? c = some o := fun c o n1 n2 n3 n4 q => sE.extBut _ _ n2 (sD.extBut _ _ n4 (sC.extBut _ _ n2 (sB.extBut _ _ n3 (sA.extBut _ _ n1 q))))
  have j1 : hE'.IsTupleIter i1 l1 (k + 1) := ((jB.extBut sC.extBut D.TOi1.symm).extBut sD.extBut D.i12).extBut sE.extBut D.TOi1.symm
  have j2 : hE'.IsTupleIter i2 l2 (k + 1) := jD.extBut sE.extBut D.TOi2.symm
  have low : z < hE'.objs.size := Heap.lt_size zE
  refine wpAny_bind (m := Builtin.SmallTypes.ownedTupleHandOut (.ref z) (.ref hE'.objs.size)) ?_
  unfold Builtin.SmallTypes.ownedTupleHandOut
  refine wpAny_bind (wpAny_setField_rec (Heap.get?_push_of_some _ zE : (hE'.push { cls := .type "tuple", data := .seq #[x, y] }).get? z = some (zipRec TI TO .ellipsis)) (by simp) fun hF zF sF => ?_)
  replace zF : ZipS hF z TI TO (rawInt hE'.objs.size) := zF
  refine wpAny_setField_rec zF (by simp) fun hG zG sG => ?_
  replace zG : ZipS hG z TI TO (rawInt hE'.objs.size) := zG
  have up : ∀ c o, c ≠ z → hE'.get? c = some o → hG.get? c = some o := fun c o n q => sG.extBut _ _ n (sF.extBut _ _ n (Heap.get?_push_of_some _ q))
  have new : IsPair hG hE'.objs.size x y := sG.extBut _ _ (Nat.ne_of_gt low) (sF.extBut _ _ (Nat.ne_of_gt low) (Heap.get?_push_size _ rfl))
  rw [size] at zG new
  refine wpAny_pure ⟨_, rfl, (?_ : Q (.ref hE'.objs.size) _)⟩
  rw [size]
  exact fin hG zG (up _ _ D.TOz pE) (j1.at fun o q => up _ o D.i1z q) (j2.at fun o q => up _ o D.i2z q) new fun c o n1 n2 n3 n4 q => up c o n1 (keep c o n1 n2 n3 n4 q)
theorem zs_end (hh : A.handled = none) (D : ZipApart z TI TO i1 i2 l1 l2) (hz : ZipS s.heap z TI TO .none) (hTI : IsPair s.heap TI (.ref i1) (.ref i2)) (h1 : s.heap.IsTupleIter i1 l1 k) (h2 : s.heap.IsTupleIter i2 l2 k) (t1 : s.heap.IsTuple l1 xs) (t2 : s.heap.IsTuple l2 ys)
    (hTO : IsPair s.heap TO a b) (hx : xs[k]? = none) (hy : ys[k]? = none) {Q : PySem.Fin → Shared → Prop}
    (hE : ∀ h' e, (∀ c o, c ≠ z → c ≠ TO → c ≠ i1 → c ≠ i2 → s.heap.get? c = some o → h'.get? c = some o) → (∃ o, h'.get? e = some o ∧ o.cls = .type "StopIteration") → E (.ref e) { s with heap := h' }) :
    wpAny (model prog w) A (Builtin.«zip.__next__» ⟨[.ref z], []⟩) Q E s := by
  refine wpAny_bind (m := field (.ref z) 2) (wpAny_field hz rfl (x := .bool true) rfl ?_)
  refine wpAny_bind (m := field (.ref z) 3) (wpAny_field hz rfl (x := .ref TI) rfl (wpAny_bind (wpAny_seqItems hTI rfl ?_)))
  refine wpAny_bind (m := Builtin.SmallTypes.ownedTupleIsFree (.ref z)) ?_
  unfold Builtin.SmallTypes.ownedTupleIsFree
  refine wpAny_bind (wpAny_field hz rfl (x := .none) rfl (wpAny_pure ?_))
  simp only [if_true]
  refine wpAny_bind (wpAny_rule (wpAny_bind (wpAny_field hz rfl (x := .ref TO) rfl (wpAny_bind (wpAny_setField_rec hz (by simp) fun hA zA sA => ?_)))))
  replace zA : ZipS hA z TI TO .ellipsis := zA
  refine wpAny_bind ?_
  simp only [List.zipIdx_cons, List.zipIdx_nil, List.forIn_cons, List.forIn_nil]
  refine wpAny_bind (wpAny_bind (wpAny_onRaise (?_ : wpAny _ _ (Builtin.SmallTypes.nextOrEnd (.ref i1)) _ _ _)))
  refine noe_end hh (h1.extBut sA.extBut D.i1z) (t1.extBut sA.extBut D.l1z) hx fun hB kB => ?_
  have zB : ZipS hB z TI TO .ellipsis := kB _ _ D.i1z.symm zA
  refine wpAny_bind (wpAny_setField_rec zB (by simp) fun hC zC sC => ?_)
  replace zC : ZipS hC z TI TO .none := zC
  refine wpAny_bind ?_
  refine wpAny_bind ?_
  simp only [List.drop_succ_cons, List.drop_zero, List.zipIdx_cons, List.zipIdx_nil, List.forIn_cons, List.forIn_nil]
  refine wpAny_bind (wpAny_bind (noe_end hh (((h2.extBut sA.extBut D.i2z).extBut kB D.i12.symm).extBut sC.extBut D.i2z) (((t2.extBut sA.extBut D.l2z).extBut kB D.l2i1).extBut sC.extBut D.l2z) hy fun hD kD => ?_))
  rw [if_neg (by simp)]
  refine wpAny_pure (wpAny_pure (wpAny_bind (wpAny_rule ?_)))
  have keep : ∀ c o, c ≠ z → c ≠ TO → c ≠ i1 → c ≠ i2 → s.heap.get? c = some o → hD.get? c = some o := fun c o n1 _ n3 n4 q => kD _ _ n4 (sC.extBut _ _ n1 (kB _ _ n3 (sA.extBut _ _ n1 q)))
  unfold Builtin.SmallTypes.stopIteration
  refine wpAny_bind ?_
  simp only [newExc, newTuple]
  refine wpAny_bind (wpAny_newObj_type ?_ (by size_fits))
  refine wpAny_bind (m := firstArgMember _ _) (wpAny_of_eq (a := Value.none) (by first | rfl | (simp only [firstArgMember]; rfl)) ?_)
  refine wpAny_newObj_type ?_ (by size_fits)
  simp only [raiseNew]
  refine wpAny_bind (wpAny_handled ?_)
  rw [hh]
  refine wpAny_bind (wpAny_pure (wpAny_throw ?_))
  exact hE _ _ (fun c o n1 n2 n3 n4 q => Heap.get?_push_of_some _ (Heap.get?_push_of_some _ (keep c o n1 n2 n3 n4 q))) ⟨_, Heap.get?_push_size _ rfl, rfl⟩
theorem zs_pyItem (D : ZipApart z TI TO i1 i2 l1 l2) (hz : ZipS s.heap z TI TO .none) (hTI : IsPair s.heap TI (.ref i1) (.ref i2)) (hTO : IsPair s.heap TO a b) (h1 : s.heap.IsTupleIter i1 l1 k) (h2 : s.heap.IsTupleIter i2 l2 k) (t1 : s.heap.IsTuple l1 xs) (t2 : s.heap.IsTuple l2 ys)
    (hx : xs[k]? = some x) (hy : ys[k]? = some y) {Q : Option Value → Shared → Prop}
    (fin : ∀ h', ZipS h' z TI TO (rawInt s.heap.objs.size) → IsPair h' TO x y → h'.IsTupleIter i1 l1 (k + 1) → h'.IsTupleIter i2 l2 (k + 1) → IsPair h' s.heap.objs.size x y →
      (∀ c o, c ≠ z → c ≠ TO → c ≠ i1 → c ≠ i2 → s.heap.get? c = some o → h'.get? c = some o) → Q (some (.ref s.heap.objs.size)) { s with heap := h' }) : wpAny (model prog w) A (pyNext (.ref z)) Q E s := by
  have hT : s.TypeIs (.ref z) "zip" := ⟨_, hz, rfl⟩
  unfold pyNext
  exact wpAny_bind (wpAny_attempt (wpAny_callSpecial?_slot (name := Str.ofString "__next__") hT F.slot_zip_next (wpAny_call_entry F.slot_zip_next hT F.entry_zip_next
    (zs_item D hz hTI hTO h1 h2 t1 t2 hx hy fun h' a1 a2 a3 a4 a5 a6 => wpAny_pure (fin h' a1 a2 a3 a4 a5 a6)) (F.args_zip_next_1 _))))
theorem zs_pyEnd (hh : A.handled = none) (D : ZipApart z TI TO i1 i2 l1 l2) (hz : ZipS s.heap z TI TO .none) (hTI : IsPair s.heap TI (.ref i1) (.ref i2)) (hTO : IsPair s.heap TO a b) (h1 : s.heap.IsTupleIter i1 l1 k) (h2 : s.heap.IsTupleIter i2 l2 k) (t1 : s.heap.IsTuple l1 xs) (t2 : s.heap.IsTuple l2 ys)
    (hx : xs[k]? = none) (hy : ys[k]? = none) {Q : Option Value → Shared → Prop}
    (fin : ∀ h', (∀ c o, c ≠ z → c ≠ TO → c ≠ i1 → c ≠ i2 → s.heap.get? c = some o → h'.get? c = some o) → Q none { s with heap := h' }) : wpAny (model prog w) A (pyNext (.ref z)) Q E s := by
  have hT : s.TypeIs (.ref z) "zip" := ⟨_, hz, rfl⟩
  unfold pyNext
  refine wpAny_bind (wpAny_attempt (wpAny_callSpecial?_slot (name := Str.ofString "__next__") hT F.slot_zip_next (wpAny_call_entry F.slot_zip_next hT F.entry_zip_next
    (zs_end (A := A.in1) (show A.in1.handled = none from hh) D hz hTI h1 h2 t1 t2 hTO hx hy fun h' e kp he => ?_) (F.args_zip_next_1 _))))
  obtain ⟨o, ho, hc⟩ := he
  exact wpAny_bind (wpAny_isInstance (T := "StopIteration") (b := true) ⟨o, ho, hc⟩ isSubtype_stop (wpAny_pure (fin h' kp)))
theorem zs_letGo {elts : List Expr} {kk : Nat} {pos : Pos} {T : Addr} {Q : Unit → Shared → Prop} (hz : ZipS s.heap z TI TO (rawInt T)) (fin : ∀ h', ZipS h' z TI TO .none → Heap.SameBut z s.heap h' → Q () { s with heap := h' }) :
    wpAny (model prog w) A (letOwnedTupleGo (.Tuple elts kk pos) (.ref z) (.ref T)) Q E s := by
  unfold letOwnedTupleGo
  refine wpAny_bind (wpAny_load hz ?_)
  change wpAny _ _ (if (["enumerate", "zip", "dict_itemiterator", "dict_reverseitemiterator", "odict_iterator", "itertools.zip_longest", "itertools.pairwise"].contains "zip" && (#[rawInt T, .bool false, .bool true, .ref TI, .ref TO] : Array Value)[0]? == some (rawInt T)) = true then _ else _) Q E s
  rw [if_pos (by simp)]
  refine wpAny_bind (m := rule _) (wpAny_rule ?_)
  exact wpAny_setField_rec hz (by simp) fin
theorem zs_iter {f0 : Value} {Q : Value → Shared → Prop} (hz : ZipS s.heap z TI TO f0) (h : Q (.ref z) s) : wpAny (model prog w) A (pyIter (.ref z)) Q E s := by
  have hT : s.TypeIs (.ref z) "zip" := ⟨_, hz, rfl⟩
  exact wpAny_pyIter_slot hT F.slot_zip_iter (wpAny_call_entry F.slot_zip_iter hT F.entry_zip_iter (wpAny_pure ⟨_, rfl, "zip", _, hT, F.slot_zip_next.lookup, h⟩) (F.args_zip_iter_1 _))
end
/-- how its turns go -/
def ItzS (K : PySem.W.Frag) (a b : Addr) : It :=
  ⟨(RZ.ItzT K a b).go, (RZ.ItzT K a b).yld, fun i H => ∃ xs ys : List V, SqT K H a xs ∧ SqT K H b ys ∧ xs.length = ys.length ∧ xs.length ≤ i⟩
theorem turn_zs {P : Program} {w : World} {K : PySem.W.Frag} {elts : List Expr} {kk : Nat} {tpos : Pos} {a b z TI TO i1 i2 : Addr} (D : ZipApart z TI TO i1 i2 a b) :
    Turn P w K (.Tuple elts kk tpos) (ItzS K a b) [z, TI, TO, i1, i2] z (fun i h => ZipS h z TI TO .none ∧ IsPair h TI (.ref i1) (.ref i2) ∧ (∃ x y, IsPair h TO x y) ∧ h.IsTupleIter i1 a i ∧ h.IsTupleIter i2 b i) where
  mem := List.mem_cons_self
  obj := fun i h st c hc => by
    obtain ⟨r1, r2, ⟨_, _, r3⟩, ⟨o4, r4, _, d4⟩, ⟨o5, r5, _, d5⟩⟩ := st
    simp only [List.mem_cons, List.not_mem_nil, or_false] at hc
    rcases hc with rfl | rfl | rfl | rfl | rfl
    · exact ⟨_, r1, fun v q => nomatch q⟩
    · exact ⟨_, r2, fun v q => nomatch q⟩
    · exact ⟨_, r3, fun v q => nomatch q⟩
    · exact ⟨o4, r4, fun v q => by rw [d4] at q; cases q⟩
    · exact ⟨o5, r5, fun v q => by rw [d5] at q; cases q⟩
  keep := fun i h h' st k => by
    obtain ⟨r1, r2, ⟨x, y, r3⟩, r4, r5⟩ := st
    exact ⟨k _ (by simp) _ r1, k _ (by simp) _ r2, ⟨x, y, k _ (by simp) _ r3⟩, r4.at fun o q => k _ (by simp) o q, r5.at fun o q => k _ (by simp) o q⟩
  item := by
    rintro X rfl rfl rfl hc i pins s σ H E I hf ⟨r1, r2, ⟨x0, y0, r3⟩, r4, r5⟩ ⟨xs, ys, x, y, sx, sy, ex, ey⟩
    obtain ⟨us, rv, p, _⟩ := I.tuple sx
    obtain ⟨ws, rv2, p2, _⟩ := I.tuple sy
    obtain ⟨u, hu, ru⟩ := rv.get ex
    obtain ⟨u2, hu2, ru2⟩ := rv2.get ey
    have low : z < s.heap.objs.size := Heap.lt_size r1
    refine zs_pyItem D r1 r2 r3 r4 r5 p p2 (x := u) (y := u2) (by simpa using hu) (by simpa using hu2) fun h' z' TO' j1 j2 hT hk => ?_
    refine ⟨_, rfl, zs_letGo (s := { s with heap := h' }) z' fun h2 z2 sb => ?_⟩
    have hT2 : h2.get? s.heap.objs.size = some { cls := .type "tuple", data := .seq #[u, u2] } := (sb.2 _ (Nat.ne_of_gt low)).trans hT
    have out : ∀ c, c ∉ [z, TI, TO, i1, i2] → ∀ o, s.heap.get? c = some o → h2.get? c = some o := fun c hc o q => by
      simp only [List.mem_cons, List.not_mem_nil, or_false, not_or] at hc
      exact (sb.2 c hc.1).trans (hk c o hc.1 hc.2.2.1 hc.2.2.2.1 hc.2.2.2.2 q)
    have J : Inv X pins σ (upd H s.heap.objs.size (.tup [x, y])) { s with heap := h2 } :=
      I.turnedNew (t' := s.toks) (ch := [z, TI, TO, i1, i2]) (fun c o hc q => out c hc o q) hf (Nat.le_refl _) ⟨by show 2 ≤ sizeLine; decide, [u, u2], .cons ru (.cons ru2 .nil), ⟨_, hT2, rfl, _, rfl⟩⟩
    refine ⟨.ref s.heap.objs.size, _, J, rfl, ⟨_, x, y, rfl, I.hok.fresh (Nat.le_refl _), rfl, fun l hl => by rw [I.tuple_inj hl sx]; exact ex, fun l hl => by rw [I.tuple_inj hl sy]; exact ey⟩, ⟨z2, (sb.2 _ D.TIz).trans (hk _ _ D.TIz D.TITO D.TIi1 D.TIi2 r2), ⟨u, u2, (sb.2 _ D.TOz).trans TO'⟩, j1.at fun o q => (sb.2 _ D.i1z).trans q, j2.at fun o q => (sb.2 _ D.i2z).trans q⟩, fun c hcm => ?_⟩
    have old : c < s.heap.objs.size := by
      have hc := hcm
      simp only [List.mem_cons, List.not_mem_nil, or_false] at hc
      rcases hc with rfl | rfl | rfl | rfl | rfl
      · exact low
      · exact Heap.lt_size r2
      · exact Heap.lt_size r3
      · obtain ⟨_, q, _⟩ := r4; exact Heap.lt_size q
      · obtain ⟨_, q, _⟩ := r5; exact Heap.lt_size q
    rw [upd_ne (Nat.ne_of_lt old)]
    exact (hf c hcm).1
  done := by
    rintro X rfl rfl rfl hc i pins s σ H E I hf ⟨r1, r2, ⟨x0, y0, r3⟩, r4, r5⟩ ⟨xs, ys, sx, sy, el, ei⟩
    obtain ⟨us, rv, p, _⟩ := I.tuple sx
    obtain ⟨ws, rv2, p2, _⟩ := I.tuple sy
    have n1 := rv.length
    have n2 := rv2.length
    exact zs_pyEnd (I.ok.hd hc) D r1 r2 r3 r4 r5 p p2 (by simp; omega) (by simp; omega) fun h' hk => ⟨rfl, I.turnedL (t' := s.toks) (ch := [z, TI, TO, i1, i2]) (fun c o hb q => by
      simp only [List.mem_cons, List.not_mem_nil, or_false, not_or] at hb
      exact hk c o hb.1 hb.2.2.1 hb.2.2.2.1 hb.2.2.2.2 q) hf⟩
  self := fun A i s Q E st h => zs_iter st.1 h
/-! ### the call, and the data that it gives -/
section
variable {M : Model} {A : Around} {E : Value → Shared → Prop} {s : Shared} {env : Env}
theorem call_kw {func : Expr} {args : List Expr} {kws : List Keyword} {pos : Pos} {Q : Value → Shared → Prop}
    (h : wpAny M A (eval func env) (fun f s1 => wpAny M A (callWith pos f [] (backTo pos (starEach args env)) (backToKw pos (keywordEach kws env))) Q E s1) E s)
    (he : eval (.Call func args kws pos) env = (do callWith pos (← eval func env) [] (backTo pos (starEach args env)) (backToKw pos (keywordEach kws env))) := by rfl) : wpAny M A (eval (.Call func args kws pos) env) Q E s := by
  rw [he]
  exact wpAny_bind h
theorem callWith_tyk {pos : Pos} {T : String} {args : List (Bool × Sem Value)} {keywords : List (Option Str × Sem Value)} {Q : Value → Shared → Prop} (hplain : args.any (·.1) = false) (hkw : keywords.any (·.1.isNone) = false)
    (h : wpAny M A (evalArgs (.type T) true args keywords) (fun a s1 => wpAny M A (call (.type T) a.pos a.kw) Q E s1) E s) : wpAny M A (callWith pos (.type T) [] args keywords) Q E s := by
  unfold callWith
  refine wpAny_bind (wpAny_holding (wpAny_mono h (fun a s1 h1 => wpAny_bind (wpAny_standAt ?_)) fun _ _ q => q))
  simp only [hplain, hkw, Bool.or_false]
  exact wpAny_bind (wpAny_pure (wpAny_bind (wpAny_mono h1 (fun r s2 hr => wpAny_bind (wpAny_holding (wpAny_point (wpAny_pure hr)))) fun _ _ q => q)))
end
def iZipS (K : PySem.W.Frag) (ta : TA) : TI := fun σ H R => ta σ H fun vs H1 => ∃ a b xs ys, vs = [.ref a, .ref b] ∧ SqT K H1 a xs ∧ SqT K H1 b ys ∧ R (ItzS K a b) H1
theorem pi_zipS {X : Cx} {e e2 : Expr} {ta : TA} {p pos tpos p3 p4 : Pos} {elts : List Expr} {kk k3 : Nat} (hg : Gl X "zip") (hm : X.mg "zip" = none) (ha : PA X [e, e2] ta)
    (hs : backTo pos (starEach [e, e2] X.env) = (false, eval e X.env) :: backTo pos (starEach [e2] X.env) := by rfl) (hpl : (backTo pos (starEach [e, e2] X.env)).any (·.1) = false := by rfl) :
    PI X (.Tuple elts kk tpos) (.Call (.Name "zip" p) [e, e2] [⟨some "strict", .Constant (.bool true) k3 p3, p4⟩] pos) (iZipS X.K ta) := by
  refine ⟨fun pins s σ H R I h => ?_⟩
  refine call_kw (ld_blt I hg hm PyProof.Rows.boot_zip (callWith_tyk hpl rfl ?_))
  rw [hs]
  refine evalArgs_kwB rfl ?_
  rw [← hs]
  refine thn (ha.run pos pins s σ H _ I h) fun us s1 ⟨vs, H1, I1, r1, q1⟩ => ?_
  refine kws_cons (wpAny_pure (kws_nil ?_))
  obtain ⟨a, b, xs, ys, ex, sx, sy, q⟩ := q1
  subst ex
  cases r1 with
  | cons r rr =>
    cases rr with
    | cons r' rr =>
      cases rr
      cases r
      cases r'
      obtain ⟨us, rv, t1, _⟩ := I1.tuple sx
      obtain ⟨ws, rv2, t2, _⟩ := I1.tuple sy
      obtain ⟨o1, g1, _⟩ := id t1
      obtain ⟨o2, g2, _⟩ := id t2
      refine call_zs (show s1.heap.IsTuple a us.toArray from t1) (show s1.heap.IsTuple b ws.toArray from t2) fun h' hz hTI hTO h1 h2 hk => zs_iter hz ?_
      refine ⟨s1.heap.objs.size + 4, [s1.heap.objs.size + 4, s1.heap.objs.size + 2, s1.heap.objs.size + 3, s1.heap.objs.size, s1.heap.objs.size + 1], _, _, H1, rfl, I1.kept (t' := s1.toks) hk, turn_zs (PySem.W.ktu_apart s1.heap.objs.size a b (Heap.lt_size g1) (Heap.lt_size g2)), ⟨hz, hTI, ⟨_, _, hTO⟩, h1, h2⟩, fun c hc => ?_, q⟩
      have le : s1.heap.objs.size ≤ c := by
        simp only [List.mem_cons, List.not_mem_nil, or_false] at hc
        rcases hc with rfl | rfl | rfl | rfl | rfl <;> omega
      exact I1.fpOk le (I1.hok.fresh le)
/-- zip(.., strict=True) -/
def dZipS : D → D → Option (List D)
  | .tuple xs, .tuple ys => if xs.length = ys.length then some (zipD xs ys) else none
  | _, _ => none
theorem walk_zs {elts : List Expr} {kk : Nat} {tpos : Pos} {K : PySem.W.Frag} {G : Hp} {p q : Addr} {vs ws : List V} {ds es : List D} (hp : Tu G p vs) (hq : Tu G q ws) (r : RpL G vs ds) (r2 : RpL G ws es) (hl : ds.length = es.length) : IsWalk (.Tuple elts kk tpos) G (ItzS K p q) (zipD ds es) where
  go := (walk_zt (elts := elts) (kk := kk) (tpos := tpos) hp hq r r2).go
  stop := fun H s => ⟨vs, ws, (hp.sqm s), (hq.sqm s), by rw [r.length, r2.length, hl], by rw [zipD_len, r.length]; omega⟩
  yld := (walk_zt (elts := elts) (kk := kk) (tpos := tpos) hp hq r r2).yld
section
variable {X : Cx} {R : Res} {ρ : List Cell} {a b : Expr} {pos p tpos p3 p4 : Pos} {elts : List Expr} {kk k3 : Nat}
theorem ji_zipS {Ts : M (List D)} (hm : X.mg "zip" = none) (ha : JA X R ρ [a, b] 2 Ts) (hg : Gl X "zip" := by rfl)
    (hs : backTo pos (starEach [a, b] X.env) = (false, eval a X.env) :: backTo pos (starEach [b] X.env) := by rfl) (hpl : (backTo pos (starEach [a, b] X.env)).any (·.1) = false := by rfl) :
    JI X R ρ (.Tuple elts kk tpos) (.Call (.Name "zip" p) [a, b] [⟨some "strict", .Constant (.bool true) k3 p3, p4⟩] pos) (fun q => Ts fun ds => lift (F2 dZipS ds) q) := by
  refine PI.imp (pi_zipS hg hm ha hs hpl) fun σ H Rr ⟨G, m, q, S, t, k⟩ => ⟨G, m, _, S, t, fun vs ds G1 H1 m1 S1 g1 r1 l1 q1 => ?_⟩
  obtain ⟨es, hd, q1⟩ := q1
  cases r1 with
  | nil => cases hd
  | cons r1 r2 =>
    cases r2 with
    | nil => cases hd
    | cons r2 r3 =>
      cases r3 with
      | cons _ _ => cases hd
      | nil =>
        cases r1 with
        | @tup p1 vs1 xs1 h1 ra =>
          cases r2 with
          | @tup p2 vs2 xs2 h2 rb =>
            have hd : (if xs1.length = xs2.length then some (zipD xs1 xs2) else none) = some es := hd
            by_cases hl : xs1.length = xs2.length
            · rw [if_pos hl] at hd
              cases hd
              exact ⟨_, _, _, _, rfl, (h1.sqm S1.gh), (h2.sqm S1.gh), k _ _ G1 H1 m1 S1 g1 (walk_zs h1 h2 ra rb hl) q1⟩
            · rw [if_neg hl] at hd; cases hd
          | _ => cases hd
        | _ => cases r2 <;> cases hd
theorem jie_zipS {oa ob : Option D} (hm : X.mg "zip" = none) (ha : JE X R ρ a oa) (hb : JE X R ρ b ob) (hg : Gl X "zip" := by rfl)
    (hs : starEach [a, b] X.env = (false, eval a X.env) :: starEach [b] X.env := by rfl) (hs2 : starEach [b] X.env = (false, eval b X.env) :: starEach [] X.env := by rfl)
    (hs3 : backTo pos (starEach [a, b] X.env) = (false, eval a X.env) :: backTo pos (starEach [b] X.env) := by rfl) (hpl : (backTo pos (starEach [a, b] X.env)).any (·.1) = false := by rfl) :
    JIE X R ρ (.Tuple elts kk tpos) (.Call (.Name "zip" p) [a, b] [⟨some "strict", .Constant (.bool true) k3 p3, p4⟩] pos) (C2 dZipS oa ob) :=
  (ji_zipS hm (jae_cons ha (jae_cons hb jae_nil hs2) hs) hg hs3 hpl).imp fun q m h => liftF (by rw [c2_eq]; exact h)
end
end Dl

set_option Elab.async false
set_option linter.all false
set_option autoImplicit false
set_option maxRecDepth 100000
set_option maxHeartbeats 1000000
namespace Dl
open PySem L2
/-! ### a law that begins with pen, full = _law_open(script), [] -/
def sOpen2 (K : PySem.W.Frag) (F : List Int → Option (List D)) (a : Addr) (i j : Nat) : TS := fun Dn σ H => ∃ G ns ds, σ[0]? = some (some (.ref a)) ∧ Same G H ∧ SqL K G a (ns.map V.int) ∧ F ns = some ds ∧
  ∀ v G' H', Grow (fun _ => False) G H G' H' → Same G' H' → RK.lst.rel H G' H' v ds → ∀ q, H' q = none → ∀ T, (upd H' q (.lst [])) T = none → Dn.nx ((σ.set i (some v)).set j (some (.ref q))) (upd (upd H' q (.lst [])) T (.tup [v, .ref q]))
section
variable {X : Cx} {pos p p2 p4 p5 p6 p7 pt pt2 : Pos} {x y z z2 : Str} {a : Addr} {k kt k2 : Nat} {F : List Int → Option (List D)}
theorem ps_open2 (i j : Nat) (B : Bx X k) (h : Kn X.prog X.w X.K X.mg X.base x k (spOpen X.K F)) (hN : X.N[0]? = some y := by rfl) (hv : Vis X.env.scope y := by first | exact Or.inl rfl | exact Or.inr (Or.inl rfl) | exact Or.inr (Or.inr rfl)) (hd : (y == ("__debug__" : Str)) = false := by decide) (hcd : (y == ("__classdict__" : Str)) = false := by decide) (hg : Gl X x := by rfl)
    (hdb : (x == ("__debug__" : Str)) = false := by decide) (he : starEach [.Name y p2] X.env = (false, eval (.Name y p2) X.env) :: starEach [] X.env := by rfl) (hpl : (backTo p4 (starEach [] X.env)).any (·.1) = false := by rfl)
    (hi : X.N[i]? = some z := by rfl) (hj : X.N[j]? = some z2 := by rfl) (hx : Loc X.env.scope z := by first | exact Or.inl rfl | exact Or.inr rfl) (hy : Loc X.env.scope z2 := by first | exact Or.inl rfl | exact Or.inr rfl)
    (fx : X.fn z = true ∨ X.env.scope.names.lookup z = some .local := by first | exact .inl rfl | exact .inr rfl) (fy : X.fn z2 = true ∨ X.env.scope.names.lookup z2 = some .local := by first | exact .inl rfl | exact .inr rfl)
    (he1 : starEach [.Call (.Name x p) [.Name y p2] [] p4, .List [] p7] X.env = (false, eval (.Call (.Name x p) [.Name y p2] [] p4) X.env) :: starEach [.List [] p7] X.env := by rfl) (he2 : starEach [.List [] p7] X.env = (false, eval (.List [] p7) X.env) :: starEach [] X.env := by rfl)
    (hn : (assignEach [.Name z p5, .Name z2 p6] X.env).length = 2 := by rfl) (hst : (assignEach [.Name z p5, .Name z2 p6] X.env).findIdx? (·.1) = none := by rfl)
    (h2 : (assignEach [.Name z p5, .Name z2 p6] X.env).map (·.2) = assign (.Name z p5) X.env :: (assignEach [.Name z2 p6] X.env).map (·.2) := by rfl) (h3 : (assignEach [.Name z2 p6] X.env).map (·.2) = assign (.Name z2 p6) X.env :: (assignEach [] X.env).map (·.2) := by rfl)
    (hs : swapsWithSole [.Tuple [.Name z p5, .Name z2 p6] kt pt] (.Tuple [.Call (.Name x p) [.Name y p2] [] p4, .List [] p7] k2 pt2) pos.line X.env = pure false := by rfl) (hw : swappedStores [.Tuple [.Name z p5, .Name z2 p6] kt pt] (.Tuple [.Call (.Name x p) [.Name y p2] [] p4, .List [] p7] k2 pt2) X.env = pure none := by rfl)
    (h1 : (assignEach [.Tuple [.Name z p5, .Name z2 p6] kt pt] X.env).map (·.2) = [assign (.Tuple [.Name z p5, .Name z2 p6] kt pt) X.env] := by rfl) :
    PS X (.Assign [.Tuple [.Name z p5, .Name z2 p6] kt pt] (.Tuple [.Call (.Name x p) [.Name y p2] [] p4, .List [] p7] k2 pt2) pos) (sOpen2 X.K F a i j) :=
  PS.imp (ps_asg (pe_tup (pa_cons (pe_kn h B (pa_cons (pe_var (i := 0) hN hv hd hcd) pa_nil he) hg hdb he hpl) (pa_cons (pe_lst pa_nil) pa_nil he2) he1)) (pg_tup B.hc (pgs_cons (pg_name (i := i) B.nd hi hx fx) (pgs_cons (pg_name (i := j) B.nd hj hy fy) pgs_nil h3) h2) hn hst) hs hw h1) fun Dn σ H ⟨G, ns, ds, e, gh, hS, hF, k⟩ =>
    ⟨_, e, G, a, ns, ds, rfl, gh, hS, hF, fun v G' H' g' s' rr => ⟨Nat.zero_le _, fun q hq => ⟨(by show 2 ≤ sizeLine; decide), fun T hT => ⟨T, [v, .ref q], rfl, SqT.of upd_same, rfl, v, [.ref q], rfl, .ref q, [], rfl, rfl, k v G' H' g' s' rr q hq T hT⟩⟩⟩⟩
end
section
variable {P : Program} {w : World} {K : PySem.W.Frag} {mg : Str → Option Value} {base : Heap}
theorem law_g2 {F : List Int → Option (List D)} {L : List Int → Nat → Prop} {x : Str} {st st0 : Stmt} {rest : List Stmt} {f : Addr} {fd : FuncData} {N ps : List Str} {k i j : Nat} (Fn : Fun K x x st f fd) (Sc : FnScope N ps (defScope st)) (hn : ps.length = 1) (hb : defBody st = st0 :: rest)
    (hF : ∀ ns : List Int, ns.length ≤ 63 → ∃ cs : List Int, F ns = some [.list (cs.map PyData.int), .int 0, .int 0]) (hL : ∀ cs, L cs 0)
    (first : ∀ (cdv : Value) (A : Around) (outer : List Env) (s : Shared) (H : Hp) (E : XK), Bx (cxG P w K mg base N x st f cdv A outer s H E) k → ∀ a : Addr, PS (cxG P w K mg base N x st f cdv A outer s H E) st0 (sOpen2 K F a i j))
    (body : ∀ (cdv : Value) (A : Around) (outer : List Env) (s : Shared) (H : Hp) (E : XK), Bx (cxG P w K mg base N x st f cdv A outer s H E) k → ∀ (a pa ca : Addr) (cs : List Int),
      JK (cxG P w K mg base N x st f cdv A outer s H E) (rPen pa ca cs H) .dat (((startP N a []).set i (.raw (.ref pa))).set j (.dat (.list []))) rest (KtF .dat qTrue) qTrue (L cs)) : FnG P w K mg base CX0 (k + 1) f fd ps (spLaw K) := by
  refine fn_g Fn Sc (fun vs H Q E h => ?_) (fun cdv A outer s H vs Q E hg hr h => ?_)
  · obtain ⟨a, ns, rfl, _⟩ := h
    rw [hn]; rfl
  · obtain ⟨a, ns, rfl, hS, hl, hQ⟩ := h
    have B : Bx (cxG P w K mg base N x st f cdv A outer s H E) _ := ⟨hr, hg, rfl, Sc.nd, PassesOwn.never⟩
    obtain ⟨cs, hcs⟩ := hF ns hl
    rw [hb]
    refine ⟨_, (pss_cons (first cdv A outer s H E B a) (pss_any fun z : Addr × Addr => body cdv A outer s H E B a z.1 z.2 cs)).nox, ?_⟩
    have hG : ∃ G : Hp, Same G H ∧ SqL K G a (ns.map V.int) := by
      refine ⟨fun b => if b = a then H a else none, fun b o e => ?_, ?_⟩
      · have e : (if b = a then H a else none) = some o := e
        by_cases z : b = a
        · rw [if_pos z] at e; rw [z]; exact e
        · rw [if_neg z] at e; cases e
      · rcases hS with (h | ⟨o, h⟩) | h
        · exact .inl (.inl ((if_pos rfl).trans h))
        · exact .inl (.inr ⟨o, (if_pos rfl).trans h⟩)
        · exact .inr h
    obtain ⟨G, gh, hSG⟩ := hG
    refine ⟨G, ns, _, rfl, gh, hSG, hcs, fun v G' H' g' s' rr q hq T hT => ?_⟩
    obtain ⟨pa, ws, rfl, en, gp, hp, r⟩ := rr
    match ws, r with
    | [w1, w2, w3], .cons r1 (.cons r2 (.cons r3 .nil)) =>
      cases r2
      cases r3
      cases r1 with
      | @lst ca us _ hca rc =>
        have e := rc.ints
        subst e
        have npq : pa ≠ q := ne_of_none hp hq
        have ncq : ca ≠ q := ne_of_none (s' _ _ hca) hq
        have npT : pa ≠ T := by
          exact ne_of_none ((upd_ne npq).trans hp) hT
        obtain ⟨g2, s2⟩ := grow_new s' hq (.lst [])
        obtain ⟨g3, s3⟩ := grow_own s2 hT (.tup [V.ref pa, .ref q])
        have hp3 : (upd (upd H' q (.lst [])) T (.tup [V.ref pa, .ref q])) pa = some (.lst _) := (upd_ne npT).trans ((upd_ne npq).trans hp)
        have gg : Grow (fun _ => False) G H (upd G' q (.lst [])) (upd (upd H' q (.lst [])) T (.tup [V.ref pa, .ref q])) := (g'.trans (fun _ h => h.elim) g2).trans (fun _ h => h.elim) g3
        have S : Sat (rPen pa ca cs H) (upd G' q (.lst [])) (upd (upd H' q (.lst [])) T (.tup [V.ref pa, .ref q])) 0 := ⟨s3, fun b vb => by
          have vb : b = pa := vb
          subst vb; exact (upd_ne npq).trans gp, fun b vb => by
          have vb : b = pa := vb
          subst vb; rw [hp3]; exact fun z => (nomatch z), (upd_ne ncq).trans hca, ⟨0, 0, hp3, Nat.le_refl _⟩, fun b hb => free_of gg (fun _ z => z.elim) hb⟩
        have S1 : Sit (rPen pa ca cs H) (L2.start N [.ref a]) (startP N a []) _ _ 0 := sit_startP S .nil
        have S2 := S1.setC i (some (.ref pa)) (.raw (.ref pa)) (fun _ z => nomatch z) rfl
        have S3 := S2.setC j (some (.ref q)) (.dat (.list [])) (fun _ z => nomatch z) ⟨.ref q, rfl, .lst upd_same .nil⟩
        have rt : Rt (rPen pa ca cs H) .dat (upd G' q (.lst [])) qTrue Q := fun v d G2 H2 m2 S2 g2 rr e => by
          have e : d = .bool true := e
          subst e
          cases rr
          exact hQ H2
        have g0 : Grow (rPen pa ca cs H).vol (upd G' q (.lst [])) H (upd G' q (.lst [])) (upd (upd H' q (.lst [])) T (.tup [V.ref pa, .ref q])) := ⟨Same.refl _, fun b o nv h => gg.hh b o (fun z => z) h, fun b gb _ => gb⟩
        refine ⟨(pa, ca), _, _, 0, S3, g0, hL cs, rt, ?_, ?_, ?_⟩
        · intro ρ' b σ' G2 H2 m' h hb S' g2 _
          exact Falls.ok (R := rPen pa ca cs H) (Gb := upd G' q (.lst [])) rt h hb S' g2
        · intro _ _ _ _ _ _ h; exact h.elim
        · intro _ _ _ _ _ _ h; exact h.elim
end
end Dl

set_option Elab.async false
set_option linter.all false
set_option autoImplicit false
set_option maxRecDepth 100000
set_option maxHeartbeats 1000000
namespace Dl
open PySem L2
@[irreducible] def m_is_rising (values1 : D) : Option (D) :=
  (C1 dAll ((lcO (C2 dZipS (slO (some values1) (some none) (((some (PyData.int 1)).bind dNeg).bind asI)) (slO (some values1) ((some (PyData.int 1)).bind asI) (some none))) fun d => un2 d fun one2 other3 => turnO (some true) (b2 dLt (some one2) (some other3))).map PyData.list))
@[irreducible] def m_is_lot (n1 value2 : D) : Option (D) :=
  (andV ((some value2).map fun d => PyData.bool (isTy "tuple" d)) (andV (C1 dAll ((lcO ((some value2).bind dItems) fun place3 => turnO (some true) (C2 m_is_place (some n1) (some place3))).map PyData.list)) (C1 m_is_rising (some value2))))
@[irreducible] def m__law_is_lot (n1 value2 : D) : Option (D) :=
  (ifO (orO ((((some value2).map fun d => PyData.bool (isTy "tuple" d)).bind asT).map (!·)) ((b2 (dIn false) (some (PyData.bool false)) ((lcO ((some value2).bind dItems) fun place3 => turnO (some true) (andV (C1 m__law_is_whole (some place3)) (chainO dLe dLt (some (PyData.int 0)) (some place3) (some n1)))).map PyData.list)).bind asB)) (some (PyData.bool false)) (b2 (dIn true) (some (PyData.bool false)) ((lcO (C2 dZip (some value2) (slO (some value2) ((some (PyData.int 1)).bind asI) (some none))) fun d => un2 d fun one4 other5 => turnO (some true) (b2 dLt (some one4) (some other5))).map PyData.list)))
/-! ### rising values -/
def stepsB {α : Type} (lt : α → α → Bool) : List α → List Bool
  | a :: b :: r => lt a b :: stepsB lt (b :: r)
  | _ => []
def risesB {α : Type} (lt : α → α → Bool) (xs : List α) : Bool := (stepsB lt xs).all id
theorem steps_eval {α : Type} {lt : α → α → Bool} {g : α → D} (hg : ∀ a b, b2 dLt (some (g a)) (some (g b)) = some (.bool (lt a b))) : ∀ xs : List α, cO (fun d => un2 d fun one2 other3 => turnO (some true) (b2 dLt (some one2) (some other3))) (zipD (xs.map g) ((xs.map g).drop 1)) = some ((stepsB lt xs).map PyData.bool)
  | [] => rfl
  | [_] => rfl
  | a :: b :: r => by
    have ih := steps_eval hg (b :: r)
    show ((un2 (.tuple [g a, g b]) fun one2 other3 => turnO (some true) (b2 dLt (some one2) (some other3))).bind fun o => (cO _ (zipD ((b :: r).map g) (((b :: r).map g).drop 1))).bind fun z => some (match o with | some x => x :: z | none => z)) = _
    rw [ih]
    dsimp only [un2]
    rw [hg]
    rfl
theorem zip_last : ∀ ds : List D, zipD ds.dropLast (ds.drop 1) = zipD ds (ds.drop 1)
  | [] => rfl
  | [_] => rfl
  | a :: b :: r => by
    have ih := zip_last (b :: r)
    show PyData.tuple [a, b] :: zipD (b :: r).dropLast r = PyData.tuple [a, b] :: zipD (b :: r) r
    have e : (b :: r).drop 1 = r := rfl
    rw [e] at ih
    rw [ih]
theorem cut_last (ds : List D) : slO (some (.tuple ds)) (some none) (((some (PyData.int 1)).bind dNeg).bind asI) = some (.tuple ds.dropLast) := by
  show some (PyData.tuple (cutD ds none (some (-1)))) = _
  unfold cutD
  rw [HT.sIx_none]
  have e : HT.sIx ds.length ds.length (some (-1)) = ds.length - 1 := by
    show (if (-1 : Int) < 0 then ((-1 : Int) + (ds.length : Int)).toNat else min (-1 : Int).toNat ds.length) = _
    rw [if_pos (by decide)]
    omega
  rw [e, List.drop_zero, Nat.sub_zero, List.dropLast_eq_take]
theorem cut_first (ds : List D) : slO (some (.tuple ds)) ((some (PyData.int 1)).bind asI) (some none) = some (.tuple (ds.drop 1)) := by
  show some (PyData.tuple (cutD ds (some ((1 : Nat) : Int)) none)) = _
  unfold cutD
  rw [HT.sIx_none, HT.sIx_nat]
  cases ds with
  | nil => rfl
  | cons d r =>
    rw [Nat.min_eq_left (by simp), List.take_of_length_le (by simp)]
theorem bools_all (bs : List Bool) : C1 dAll ((some (bs.map PyData.bool)).map PyData.list) = some (.bool (bs.all id)) := by
  show dAll (.list (bs.map PyData.bool)) = _
  unfold dAll
  simp only []
  rw [blsOf_map]
  rfl
theorem bools_notin (bs : List Bool) : b2 (dIn true) (some (PyData.bool false)) ((some (bs.map PyData.bool)).map PyData.list) = some (.bool (bs.all id)) := by
  show dIn true (.bool false) (.list (bs.map PyData.bool)) = _
  unfold dIn
  obtain ⟨h1, h2⟩ := plain_bools bs
  simp only []
  rw [if_pos (by unfold inOk; rw [h1]; simp [PyData.plain, PyData.depth])]
  simp only [if_true]
  congr 2
  induction bs with
  | nil => rfl
  | cons b bs ih =>
    have hp := plain_bools bs
    simp only [List.map_cons, List.any_cons, List.all_cons, Bool.not_or]
    rw [ih hp.1 hp.2]
    cases b <;> simp [PyData.eqv]
section
variable {α : Type} {lt : α → α → Bool} {g : α → D} {xs : List α}
theorem rising_eval (hg : ∀ a b, b2 dLt (some (g a)) (some (g b)) = some (.bool (lt a b))) (hl : xs.length < sizeLine) : C1 m_is_rising (some (.tuple (xs.map g))) = some (.bool (risesB lt xs)) := by
  rw [c1_some]
  unfold m_is_rising
  have e : C2 dZipS (some (PyData.tuple (xs.map g).dropLast)) (some (.tuple ((xs.map g).drop 1))) = some (zipD (xs.map g) ((xs.map g).drop 1)) := by
    rw [c2_some, ← zip_last]
    exact if_pos (by rw [List.length_dropLast, List.length_drop])
  have e2 : lcO (some (zipD (xs.map g) ((xs.map g).drop 1))) (fun d => un2 d fun one2 other3 => turnO (some true) (b2 dLt (some one2) (some other3))) = some ((stepsB lt xs).map PyData.bool) := by
    show (if (zipD (xs.map g) ((xs.map g).drop 1)).length < sizeLine then _ else none) = _
    rw [if_pos (by rw [zipD_len, List.length_map]; omega)]
    exact steps_eval hg xs
  rw [cut_last, cut_first, e, e2, bools_all]
  rfl
theorem lawRising_eval (hg : ∀ a b, b2 dLt (some (g a)) (some (g b)) = some (.bool (lt a b))) (hl : xs.length < sizeLine) : b2 (dIn true) (some (PyData.bool false)) ((lcO (C2 dZip (some (PyData.tuple (xs.map g))) (slO (some (PyData.tuple (xs.map g))) ((some (PyData.int 1)).bind asI) (some none))) fun d => un2 d fun one4 other5 => turnO (some true) (b2 dLt (some one4) (some other5))).map PyData.list) = some (.bool (risesB lt xs)) := by
  have e2 : lcO (some (zipD (xs.map g) ((xs.map g).drop 1))) (fun d => un2 d fun one2 other3 => turnO (some true) (b2 dLt (some one2) (some other3))) = some ((stepsB lt xs).map PyData.bool) := by
    show (if (zipD (xs.map g) ((xs.map g).drop 1)).length < sizeLine then _ else none) = _
    rw [if_pos (by rw [zipD_len, List.length_map]; omega)]
    exact steps_eval hg xs
  have e : C2 dZip (some (PyData.tuple (xs.map g))) (some (.tuple ((xs.map g).drop 1))) = some (zipD (xs.map g) ((xs.map g).drop 1)) := rfl
  rw [cut_first, e, e2, bools_notin]
  rfl
end
theorem lt_ints (i j : Int) : b2 dLt (some (PyData.int i)) (some (.int j)) = some (.bool (decide (i < j))) := rfl
theorem lt_rows (l r : List Int) : b2 dLt (some (tupD l)) (some (tupD r)) = some (.bool (HT.lexLt l r)) := by
  show ((intsOf (l.map PyData.int)).bind fun ns => (intsOf (r.map PyData.int)).bind fun ms => some (PyData.bool (HT.lexLt ns ms))) = _
  rw [intsOf_map, intsOf_map]
  rfl
/-! ### lots -/
def risesD (ds : List D) : Bool := match intsOf ds with
  | some ns => risesB (fun i j : Int => decide (i < j)) ns
  | none => false
theorem risesD_ints (ns : List Int) : risesD (ns.map PyData.int) = risesB (fun i j : Int => decide (i < j)) ns := by
  unfold risesD
  rw [intsOf_map]
def lotB (n : Nat) : D → Bool
  | .tuple ds => ds.all (isPl n) && risesD ds
  | _ => false
theorem lotB_eq (n : Nat) (ds : List D) : lotB n (.tuple ds) = (ds.all (isPl n) && risesD ds) := rfl
theorem lotB_tup (n : Nat) (ns : List Int) : lotB n (.tuple (ns.map PyData.int)) = ((ns.map PyData.int).all (isPl n) && risesB (fun i j : Int => decide (i < j)) ns) := by
  rw [lotB_eq, risesD_ints]
theorem isLot_eval (n : Nat) {v : D} (h : Fine v) : C2 m_is_lot (some (.int (n : Nat))) (some v) = some (.bool (lotB n v)) := by
  rw [c2_some]
  unfold m_is_lot
  cases v with
  | tuple ds =>
    obtain ⟨l1, l2⟩ := h.short
    have e1 : lcO ((some (PyData.tuple ds)).bind dItems) (fun place3 => turnO (some true) (C2 m_is_place (some (PyData.int (n : Nat))) (some place3))) = some (ds.map fun x => .bool (isPl n x)) := lcO_bools ds rfl l1 fun x _ => isPlace_eval n x
    rw [e1, all_eval]
    cases hA : ds.all (isPl n) with
    | false =>
      rw [lotB_eq, hA]
      rfl
    | true =>
      obtain ⟨ns, rfl⟩ := all_ints (fun _ => pl_int) hA
      rw [rising_eval (lt := fun i j : Int => decide (i < j)) lt_ints (by rwa [List.length_map] at l1), lotB_tup, hA]
      rfl
  | _ => rfl
theorem lawLot_eval (n : Nat) {v : D} (h : Fine v) : C2 m__law_is_lot (some (.int (n : Nat))) (some v) = some (.bool (lotB n v)) := by
  rw [c2_some]
  unfold m__law_is_lot
  cases v with
  | tuple ds =>
    obtain ⟨l1, l2⟩ := h.short
    have e1 : lcO ((some (PyData.tuple ds)).bind dItems) (fun place3 => turnO (some true) (andV (C1 m__law_is_whole (some place3)) (chainO dLe dLt (some (PyData.int 0)) (some place3) (some (PyData.int (n : Nat)))))) = some (ds.map fun x => .bool (isPl n x)) := lcO_bools ds rfl l1 fun x _ => place_any _ x n (isWhole_eval x)
    rw [e1, false_in]
    cases hA : ds.all (isPl n) with
    | false =>
      rw [lotB_eq, hA]
      rfl
    | true =>
      obtain ⟨ns, rfl⟩ := all_ints (fun _ => pl_int) hA
      rw [lawRising_eval (lt := fun i j : Int => decide (i < j)) lt_ints (by rwa [List.length_map] at l1), lotB_tup, hA]
      rfl
  | _ => rfl
end Dl

set_option Elab.async false
set_option linter.all false
set_option autoImplicit false
set_option maxRecDepth 100000
set_option maxHeartbeats 1000000
namespace Dl
open PySem L2
@[irreducible] def m_others (web1 lot2 : D) : Option (D) :=
  (C1 dTup ((lcO ((C1 m_every_place (some web1)).bind dItems) fun place3 => turnO ((b2 (dIn true) (some place3) (some lot2)).bind asB) (some place3)).map PyData.list))
@[irreducible] def m_is_cut (web1 value2 : D) : Option (D) :=
  (andV (C2 m_is_lot (b2 dIx (some web1) (some (PyData.int 0))) (some value2)) (b2 dGt (C1 dLen (C2 m_pieces (some web1) (C2 m_others (some web1) (some value2)))) (some (PyData.int 1))))
@[irreducible] def m_is_way (web1 a2 b3 value4 : D) : Option (D) :=
  (ifO (orO ((((some value4).map fun d => PyData.bool (isTy "tuple" d)).bind asT).map (!·)) (orO ((b2 dLt (C1 dLen (some value4)) (some (PyData.int 2))).bind asB) (((C1 dAll ((lcO ((some value4).bind dItems) fun place5 => turnO (some true) (C2 m_is_place (b2 dIx (some web1) (some (PyData.int 0))) (some place5))).map PyData.list)).bind asT).map (!·)))) (some (PyData.bool false)) (ifO (orO ((b2 dNe (b2 dIx (some value4) (some (PyData.int 0))) (some a2)).bind asB) (orO ((b2 dNe (b2 dIx (some value4) ((some (PyData.int 1)).bind dNeg)) (some b3)).bind asB) ((b2 dNe ((lcO ((some value4).bind dItems) fun place6 => turnO (some true) (some place6)).bind dLK) (C1 dLen (some value4))).bind asB))) (some (PyData.bool false)) (C1 dAll ((lcO (C2 dZipS (slO (some value4) (some none) (((some (PyData.int 1)).bind dNeg).bind asI)) (slO (some value4) ((some (PyData.int 1)).bind asI) (some none))) fun d => un2 d fun one7 other8 => turnO (some true) (C3 m_are_tied (some web1) (some one7) (some other8))).map PyData.list))))
@[irreducible] def m__law_others (web1 lot2 : D) : Option (D) :=
  (C1 dTup ((lcO (C1 (fun x => dRange [x]) (b2 dIx (some web1) (some (PyData.int 0)))) fun place3 => turnO ((b2 (dIn true) (some place3) (some lot2)).bind asB) (some place3)).map PyData.list))
@[irreducible] def m__law_is_cut (web1 value2 : D) : Option (D) :=
  (andV (C2 m__law_is_lot (b2 dIx (some web1) (some (PyData.int 0))) (some value2)) (b2 dGt (C1 dLen (C2 m__law_pieces (some web1) (C2 m__law_others (some web1) (some value2)))) (some (PyData.int 1))))
@[irreducible] def m__law_is_way (web1 a2 b3 value4 : D) : Option (D) :=
  (ifO (orO ((((some value4).map fun d => PyData.bool (isTy "tuple" d)).bind asT).map (!·)) ((b2 dLt (C1 dLen (some value4)) (some (PyData.int 2))).bind asB)) (some (PyData.bool false)) (ifO ((b2 (dIn false) (some (PyData.bool false)) ((lcO ((some value4).bind dItems) fun place5 => turnO (some true) (andV (C1 m__law_is_whole (some place5)) (chainO dLe dLt (some (PyData.int 0)) (some place5) (b2 dIx (some web1) (some (PyData.int 0)))))).map PyData.list)).bind asB) (some (PyData.bool false)) (ifO (orO ((b2 dNe (b2 dIx (some value4) (some (PyData.int 0))) (some a2)).bind asB) (orO ((b2 dNe (b2 dIx (some value4) (b2 dSub (C1 dLen (some value4)) (some (PyData.int 1)))) (some b3)).bind asB) ((b2 dNe (C1 dLenS (some value4)) (C1 dLen (some value4))).bind asB))) (some (PyData.bool false)) (b2 (dIn true) (some (PyData.bool false)) ((lcO (C2 dZip (some value4) (slO (some value4) ((some (PyData.int 1)).bind asI) (some none))) fun d => un2 d fun one6 two7 => turnO (some true) (b2 (dIn false) ((consO (C2 dMin2 (some one6) (some two7)) (consO (C2 dMax2 (some one6) (some two7)) (some []))).map PyData.tuple) (b2 dIx (some web1) (some (PyData.int 1))))).map PyData.list)))))
@[irreducible] def m__law_walk (web1 place2 : D) : M D := fun q =>
  ((lift ((consO (some place2) (some [])).map PyData.tuple)) fun found3 => ((appM (consM (drawM (consM (lift (b2 dIx (some web1) (some (PyData.int 0)))) nilM) (G1 m__law_take)) nilM) dRange) fun ds => forK (S := D) (fun s4 turn8 kk5 => ((lstM (lift (lcO ((C2 m__law_near (some web1) (b2 dIx (some s4) (b2 dSub (C1 dLen (some s4)) (some (PyData.int 1))))).bind dItems) fun one10 => turnO ((b2 (dIn true) (some one10) (some s4)).bind asB) (some one10)))) fun near9 => (ifK (lift ((b2 dNe (some near9) ((some []).map PyData.list)).bind asB)) ((op2 dAdd (lift (some s4)) (tupM (consM (drawM (consM (lift (some near9)) nilM) (G1 m__law_one_of)) nilM))) fun found11 => (kk5 found11)) (kk5 s4)))) ds found3 fun s7 => ((lift (some s7)) q)))
theorem sm_tie {p : Nat × Nat} (h1 : p.1 < 1000000) (h2 : p.2 < 1000000) : Sm 3 1 (tieD p) := (SmL.cons (sm_int (e := 0) (i := (p.1 : Nat)) (Nat.lt_trans (show (p.1 : Int).natAbs < 1000000 by omega) (by decide))) (SmL.cons (sm_int (i := (p.2 : Nat)) (Nat.lt_trans (show (p.2 : Int).natAbs < 1000000 by omega) (by decide))) smL_nil)).tup
theorem web_ties {n : Nat} {ts : List (Nat × Nat)} (W : Wb n ts) : SmL 300 1 (ts.map tieD) := by
  refine (smL_all (c := 3) (e := 1) fun d hd => ?_).mono (by have := W.few; rw [List.length_map]; omega) (Nat.le_refl _)
  obtain ⟨p, hp, rfl⟩ := List.mem_map.mp hd
  have := W.ord p hp
  have := W.hi
  exact sm_tie (by omega) (by omega)
theorem cut_sub (ds : List D) (lo hi : Option Int) : (cutD ds lo hi).Sublist ds := (List.take_sublist _ _).trans (List.drop_sublist _ _)
theorem nest_nat {x : Nat} (h : x < 1000000) : nest (.int (x : Nat)) = true := decide_eq_true (p := (x : Int).natAbs < 10 ^ 50) (Nat.lt_trans (show (x : Int).natAbs < 1000000 by omega) (by decide))
theorem nest_ofN {xs : List Nat} (h : ∀ x ∈ xs, x < 1000000) : nest (.tuple (ofN xs)) = true := nestL_iff.mpr fun d hd => by
  obtain ⟨x, hx, rfl⟩ := List.mem_map.mp hd
  exact nest_nat (h x hx)
theorem nest_web {n : Nat} {ts : List (Nat × Nat)} (W : Wb n ts) : nest (webD n ts) = true := by
  have hn := W.hi
  show (nest (.int (n : Nat)) && (nestL (ts.map tieD) && true)) = true
  rw [nest_nat (by omega), show nestL (ts.map tieD) = true from nestL_iff.mpr fun d hd => ?_]
  · rfl
  · obtain ⟨p, hp, rfl⟩ := List.mem_map.mp hd
    have := W.ord p hp
    show (nest (.int (p.1 : Nat)) && (nest (.int (p.2 : Nat)) && true)) = true
    rw [nest_nat (by omega), nest_nat (by omega)]
    rfl
theorem sort_places {n : Nat} {zs : List Nat} (z1 : zs.Nodup) (z2 : ∀ y ∈ zs, y < n) (hn : n ≤ 12) : ∃ ys : List Nat, C1 dSort (some (.tuple (ofN zs))) = some (ofN ys) ∧ Asc ys ∧ ∀ y ∈ ys, y < n := by
  obtain ⟨ys, h1, h2, h3⟩ := srt_asc zs z1
  have hz := nat_nodup_len zs (List.range n) z1 fun x hx => List.mem_range.mpr (z2 x hx)
  rw [List.length_range] at hz
  refine ⟨ys, ?_, h2, fun y hy => z2 y (h1.mem_iff.mp hy)⟩
  show (if srtOk (ofN zs) = true then some (srtD (ofN zs)) else none) = _
  rw [if_pos (srtOk_ofN zs (by omega)), h3]
/-! ### places told as numbers -/
theorem pl_nats {n : Nat} : ∀ {ds : List D}, ds.all (isPl n) = true → ∃ xs : List Nat, ds = ofN xs ∧ ∀ x ∈ xs, x < n
  | [], _ => ⟨[], rfl, fun _ h => nomatch h⟩
  | d :: ds, h => by
    simp only [List.all_cons, Bool.and_eq_true] at h
    obtain ⟨xs, rfl, hx⟩ := pl_nats h.2
    cases d with
    | int i =>
      have hi : 0 ≤ i ∧ i < n := of_decide_eq_true h.1
      obtain ⟨k, rfl⟩ := Int.eq_ofNat_of_zero_le hi.1
      refine ⟨k :: xs, rfl, fun x hm => ?_⟩
      rcases List.mem_cons.mp hm with rfl | hm
      · omega
      · exact hx x hm
    | _ => cases h.1
theorem all_pl {n : Nat} {xs : List Nat} (h : ∀ x ∈ xs, x < n) : (ofN xs).all (isPl n) = true := by
  rw [List.all_eq_true]
  intro d hd
  obtain ⟨x, hx, rfl⟩ := List.mem_map.mp hd
  have := h x hx
  exact decide_eq_true (p := 0 ≤ (x : Int) ∧ (x : Int) < n) (by omega)
theorem rises_asc : ∀ {xs : List Nat}, risesB (fun i j : Int => decide (i < j)) (xs.map fun (i : Nat) => (i : Int)) = true → Asc xs
  | [], _ => .nil
  | [a], _ => List.pairwise_singleton _ a
  | a :: b :: r, h => by
    have h : (id (decide ((a : Int) < (b : Int))) && (stepsB (fun i j : Int => decide (i < j)) ((b : Int) :: r.map fun (i : Nat) => (i : Int))).all id) = true := h
    rw [Bool.and_eq_true] at h
    have h1 : a < b := by have := of_decide_eq_true h.1; omega
    have h2 : Asc (b :: r) := rises_asc (xs := b :: r) h.2
    refine List.pairwise_cons.mpr ⟨fun y hy => ?_, h2⟩
    rcases List.mem_cons.mp hy with rfl | hy
    · exact h1
    · have := (List.pairwise_cons.mp h2).1 y hy
      omega
theorem lot_nats {n : Nat} {v : D} (h : lotB n v = true) : ∃ xs : List Nat, v = .tuple (ofN xs) ∧ Asc xs ∧ ∀ x ∈ xs, x < n := by
  cases v with
  | tuple ds =>
    rw [lotB_eq, Bool.and_eq_true] at h
    obtain ⟨xs, rfl, hx⟩ := pl_nats h.1
    refine ⟨xs, rfl, ?_, hx⟩
    have e : ofN xs = (xs.map fun (i : Nat) => (i : Int)).map PyData.int := by rw [List.map_map]; rfl
    rw [e, risesD_ints] at h
    exact rises_asc h.2
  | _ => cases h
/-! ### cuts -/
def restL (n : Nat) (xs : List Nat) : List Nat := (List.range n).filter fun x => !decide (x ∈ xs)
section
variable {n : Nat} {ts : List (Nat × Nat)}
theorem others_eval (hn : n ≤ 12) (xs : List Nat) : C2 m_others (some (webD n ts)) (some (.tuple (ofN xs))) = some (.tuple (ofN (restL n xs))) := by
  rw [c2_some]
  unfold m_others
  rw [places_eval n ts (by omega)]
  have e := lc_places (xs := List.range n) (p := fun x => !decide (x ∈ xs)) (o := (some (PyData.tuple (ofN (List.range n)))).bind dItems) (t := fun place3 => (b2 (dIn true) (some place3) (some (PyData.tuple (ofN xs)))).bind asB) rfl (by rw [List.length_range]; omega) fun x _ => by rw [notin_tup]; rfl
  rw [e]
  rfl
theorem lawOthers_eval (hn : n ≤ 12) (xs : List Nat) : C2 m__law_others (some (webD n ts)) (some (.tuple (ofN xs))) = some (.tuple (ofN (restL n xs))) := by
  rw [c2_some]
  unfold m__law_others
  have e := lc_places (xs := List.range n) (p := fun x => !decide (x ∈ xs)) (o := C1 (fun x => dRange [x]) (b2 dIx (some (webD n ts)) (some (PyData.int 0)))) (t := fun place3 => (b2 (dIn true) (some place3) (some (PyData.tuple (ofN xs)))).bind asB) (by rw [web0]; exact range_items (by omega)) (by rw [List.length_range]; omega) fun x _ => by rw [notin_tup]; rfl
  rw [e]
  rfl
theorem gt_one (a : Nat) : b2 dGt (some (PyData.int a)) (some (PyData.int 1)) = some (.bool (decide (1 < a))) := gt_nat a 1
theorem rest_lt (xs : List Nat) : (∀ x ∈ restL n xs, x < n) ∧ (restL n xs).length ≤ n := ⟨fun x hx => List.mem_range.mp (List.mem_filter.mp hx).1, by
  have := List.length_filter_le (fun x => !decide (x ∈ xs)) (List.range n)
  rwa [List.length_range] at this⟩
theorem cuts_same (W : Wb n ts) {v : D} (h : Fine v) : ∃ b : Bool, C2 m_is_cut (some (webD n ts)) (some v) = some (.bool b) ∧ C2 m__law_is_cut (some (webD n ts)) (some v) = some (.bool b) := by
  have hn := W.hi
  rw [c2_some, c2_some]
  unfold m_is_cut m__law_is_cut
  rw [web0, isLot_eval n h, lawLot_eval n h]
  cases hl : lotB n v with
  | false => exact ⟨false, rfl, rfl⟩
  | true =>
    obtain ⟨xs, rfl, _, _⟩ := lot_nats hl
    obtain ⟨r1, r2⟩ := rest_lt (n := n) xs
    rw [others_eval hn, lawOthers_eval hn, pieces_eval (by omega) r1 (by omega), lawPieces_eval W r1 (by omega), len_tupD, gt_one]
    exact ⟨_, rfl, rfl⟩
/-! ### ways -/
theorem steps_gen {F : D → D → Option D} {r : Nat → Nat → Bool} (hF : ∀ a b : Nat, F (.int (a : Nat)) (.int (b : Nat)) = some (.bool (r a b))) : ∀ xs : List Nat, cO (fun d => un2 d fun one2 other3 => turnO (some true) (F one2 other3)) (zipD (ofN xs) ((ofN xs).drop 1)) = some ((stepsB r xs).map PyData.bool)
  | [] => rfl
  | [_] => rfl
  | a :: b :: l => by
    have ih := steps_gen hF (b :: l)
    show ((un2 (.tuple [.int a, .int b]) fun one2 other3 => turnO (some true) (F one2 other3)).bind fun o => (cO _ (zipD (ofN (b :: l)) ((ofN (b :: l)).drop 1))).bind fun z => some (match o with | some x => x :: z | none => z)) = _
    rw [ih]
    dsimp only [un2]
    rw [hF]
    rfl
theorem steps_lc {F : D → D → Option D} {r : Nat → Nat → Bool} (hF : ∀ a b : Nat, F (.int (a : Nat)) (.int (b : Nat)) = some (.bool (r a b))) {xs : List Nat} (hl : xs.length < sizeLine) {o : Option (List D)} (ho : o = some (zipD (ofN xs) ((ofN xs).drop 1))) : lcO o (fun d => un2 d fun one2 other3 => turnO (some true) (F one2 other3)) = some ((stepsB r xs).map PyData.bool) := by
  rw [ho]
  show (if (zipD (ofN xs) ((ofN xs).drop 1)).length < sizeLine then _ else none) = _
  rw [if_pos (by rw [zipD_len, ofN_len]; omega)]
  exact steps_gen hF xs
def wayB (ts : List (Nat × Nat)) (a b : Nat) (xs : List Nat) : Bool := !(decide (xs.headD 0 ≠ a) || (decide (xs.getLastD 0 ≠ b) || decide ((dd (xs.map fun (i : Nat) => (i : Int))).length ≠ xs.length))) && (stepsB (adj ts) xs).all id
theorem ix_first {xs : List Nat} (h : 2 ≤ xs.length) : b2 dIx (some (PyData.tuple (ofN xs))) (some (PyData.int 0)) = some (.int (xs.headD 0 : Nat)) := by
  match xs, h with
  | x :: y :: r, _ => exact ix_tup (xs := x :: y :: r) (i := 0) (by simp)
theorem last_get {xs : List Nat} (h : 2 ≤ xs.length) : xs[xs.length - 1]'(by omega) = xs.getLastD 0 := by
  cases xs with
  | nil => simp at h
  | cons x r =>
    rw [← List.getLast_eq_getElem (List.cons_ne_nil x r), List.getLast_eq_getLastD]
    exact (List.getLastD_cons ..).symm
theorem ix_last {xs : List Nat} (h : 2 ≤ xs.length) : b2 dIx (some (PyData.tuple (ofN xs))) (b2 dSub (C1 dLen (some (PyData.tuple (ofN xs)))) (some (PyData.int 1))) = some (.int (xs.getLastD 0 : Nat)) := by
  have e : b2 dSub (C1 dLen (some (PyData.tuple (ofN xs)))) (some (PyData.int 1)) = some (.int ((xs.length - 1 : Nat) : Int)) := by
    rw [len_tup]
    exact sub_nat (b := 1) (by omega)
  rw [e, ix_tup (by omega), last_get h]
theorem ix_back {xs : List Nat} (h : 2 ≤ xs.length) : b2 dIx (some (PyData.tuple (ofN xs))) ((some (PyData.int 1)).bind dNeg) = some (.int (xs.getLastD 0 : Nat)) := by
  have e : atI (ofN xs) (-1) = some (.int (xs.getLastD 0 : Nat)) := by
    have i : ixN (ofN xs).length (-1) = some (xs.length - 1) := by
      unfold ixN
      rw [ofN_len]
      rw [if_neg (by decide), if_pos (by omega)]
      congr 1
      omega
    unfold atI
    rw [i, ← last_get h]
    show (ofN xs)[xs.length - 1]? = _
    unfold ofN
    rw [List.getElem?_map, List.getElem?_eq_getElem (by omega)]
    rfl
  exact e
theorem ne_natB (a b : Nat) : (b2 dNe (some (PyData.int (a : Nat))) (some (PyData.int (b : Nat)))).bind asB = some (decide (a ≠ b)) := congrArg (·.bind asB) (ne_nat a b)
theorem lt_two (a : Nat) : (b2 dLt (some (PyData.int a)) (some (PyData.int 2))).bind asB = some (decide (a < 2)) := congrArg (·.bind asB) (lt_nat a 2)
theorem ints_ofN (xs : List Nat) : intsOf (ofN xs) = some (xs.map fun (i : Nat) => (i : Int)) := by
  have e : ofN xs = (xs.map fun (i : Nat) => (i : Int)).map PyData.int := by rw [List.map_map]; rfl
  rw [e, intsOf_map]
theorem one_lk {xs : List Nat} (hl : xs.length < sizeLine) : (b2 dNe ((lcO ((some (PyData.tuple (ofN xs))).bind dItems) fun place6 => turnO (some true) (some place6)).bind dLK) (C1 dLen (some (PyData.tuple (ofN xs))))).bind asB = some (decide ((dd (xs.map fun (i : Nat) => (i : Int))).length ≠ xs.length)) := by
  have e := lcO_same (oi := (some (PyData.tuple (ofN xs))).bind dItems) (ofN xs) rfl (by rwa [ofN_len])
  rw [e]
  have e2 : (some (ofN xs)).bind dLK = some (.int ((dd (xs.map fun (i : Nat) => (i : Int))).length : Nat)) := by
    show dLK (ofN xs) = _
    unfold dLK
    rw [ints_ofN]
    rfl
  rw [e2, len_tup, ne_natB]
theorem one_set {xs : List Nat} (hl : xs.length < 4000) : (b2 dNe (C1 dLenS (some (PyData.tuple (ofN xs)))) (C1 dLen (some (PyData.tuple (ofN xs))))).bind asB = some (decide ((dd (xs.map fun (i : Nat) => (i : Int))).length ≠ xs.length)) := by
  have e2 : C1 dLenS (some (PyData.tuple (ofN xs))) = some (.int ((dd (xs.map fun (i : Nat) => (i : Int))).length : Nat)) := by
    show (intsOf (ofN xs)).bind (fun ns => if ns.length < 4000 then some (PyData.int ((dd ns).length : Nat)) else none) = _
    rw [ints_ofN]
    exact if_pos (by rwa [List.length_map])
  rw [e2, len_tup, ne_natB]
theorem tie_one (a b : Nat) : b2 (dIn false) ((consO (C2 dMin2 (some (PyData.int (a : Nat))) (some (PyData.int (b : Nat)))) (consO (C2 dMax2 (some (PyData.int (a : Nat))) (some (PyData.int (b : Nat)))) (some []))).map PyData.tuple) (b2 dIx (some (webD n ts)) (some (PyData.int 1))) = some (.bool (adj ts a b)) := by
  rw [min2_nat, max2_nat, web1]
  exact in_ties _ _ ts false
theorem ways_same (W : Wb n ts) {v : D} (a b : Nat) (h : Fine v) : ∃ w : Bool, C4 m_is_way (some (webD n ts)) (some (.int (a : Nat))) (some (.int (b : Nat))) (some v) = some (.bool w) ∧ C4 m__law_is_way (some (webD n ts)) (some (.int (a : Nat))) (some (.int (b : Nat))) (some v) = some (.bool w) := by
  rw [c4_some, c4_some]
  unfold m_is_way m__law_is_way
  rw [web0]
  cases v with
  | tuple ds =>
    obtain ⟨l1, l2⟩ := h.short
    have e1 : lcO ((some (PyData.tuple ds)).bind dItems) (fun place5 => turnO (some true) (C2 m_is_place (some (PyData.int (n : Nat))) (some place5))) = some (ds.map fun x => .bool (isPl n x)) := lcO_bools ds rfl l1 fun x _ => isPlace_eval n x
    have e2 : lcO ((some (PyData.tuple ds)).bind dItems) (fun place5 => turnO (some true) (andV (C1 m__law_is_whole (some place5)) (chainO dLe dLt (some (PyData.int 0)) (some place5) (some (PyData.int (n : Nat)))))) = some (ds.map fun x => .bool (isPl n x)) := lcO_bools ds rfl l1 fun x _ => place_any _ x n (isWhole_eval x)
    rw [e1, e2, all_eval, false_in, len_tupD, lt_two]
    by_cases h2 : ds.length < 2
    · rw [decide_eq_true h2]
      exact ⟨false, rfl, rfl⟩
    · rw [decide_eq_false h2]
      cases hA : ds.all (isPl n) with
      | false => exact ⟨false, rfl, rfl⟩
      | true =>
        obtain ⟨xs, rfl, hx⟩ := pl_nats hA
        rw [ofN_len] at h2 l1 l2
        have h2 : 2 ≤ xs.length := by omega
        rw [← len_tupD (ofN xs), ix_first h2, ix_last h2, ix_back h2, ne_natB, ne_natB, one_lk l1, one_set (by omega), cut_last, cut_first]
        have z1 : C2 dZipS (some (PyData.tuple (ofN xs).dropLast)) (some (.tuple ((ofN xs).drop 1))) = some (zipD (ofN xs) ((ofN xs).drop 1)) := by
          rw [c2_some, ← zip_last]
          exact if_pos (by rw [List.length_dropLast, List.length_drop])
        rw [steps_lc (r := adj ts) (F := fun one7 other8 => C3 m_are_tied (some (webD n ts)) (some one7) (some other8)) (tied_eval n ts) l1 z1, bools_all]
        rw [steps_lc (r := adj ts) (F := fun one6 two7 => b2 (dIn false) ((consO (C2 dMin2 (some one6) (some two7)) (consO (C2 dMax2 (some one6) (some two7)) (some []))).map PyData.tuple) (b2 dIx (some (webD n ts)) (some (PyData.int 1)))) tie_one l1 (o := C2 dZip (some (PyData.tuple (ofN xs))) (some (PyData.tuple ((ofN xs).drop 1)))) rfl, bools_notin]
        generalize decide (xs.headD 0 ≠ a) = t1
        generalize decide (xs.getLastD 0 ≠ b) = t2
        generalize decide ((dd (xs.map fun (i : Nat) => (i : Int))).length ≠ xs.length) = t3
        cases t1 <;> cases t2 <;> cases t3 <;> exact ⟨_, rfl, rfl⟩
  | _ => exact ⟨false, rfl, rfl⟩
end
/-! ### lots, walks -/
theorem pl_ofN : ∀ zs : List Nat, PyData.plainAll (ofN zs) = true ∧ PyData.depthAll (ofN zs) = 0
  | [] => ⟨rfl, rfl⟩
  | y :: ys => by
    obtain ⟨h1, h2⟩ := pl_ofN ys
    have e : ofN (y :: ys) = PyData.int y :: ofN ys := rfl
    rw [e]
    exact ⟨by simp [PyData.plainAll, PyData.plain, h1], by simp [PyData.depthAll, PyData.depth, h2]⟩
theorem ne_nilL (zs : List Nat) : (b2 dNe (some (PyData.list (ofN zs))) ((some []).map PyData.list)).bind asB = some (!zs.isEmpty) := by
  obtain ⟨h1, h2⟩ := pl_ofN zs
  show (dNe (.list (ofN zs)) (.list [])).bind asB = _
  unfold dNe
  rw [if_pos (by simp [eqOk, PyData.plain, PyData.plainAll, PyData.depth, PyData.depthAll, h1, h2])]
  cases zs <;> rfl
theorem sp_lotOf {n : Nat} {xs : List Nat} (hp : xs.Perm (List.range n)) (hn : n ≤ 12) : Sp 1 (appM (consM (lstM (appM (consM (sliceM (lift (some (PyData.tuple (ofN xs)))) (lift (some none)) (bindM (drawM (consM (lift (b2 dAdd (some (PyData.int (n : Nat))) (some (PyData.int 1)))) nilM) (G1 m__law_take)) asI)) nilM) (F1 dSort))) nilM) (F1 dTup))
    (fun d => ∃ ys : List Nat, d = .tuple (ofN ys) ∧ Asc ys ∧ ∀ y ∈ ys, y < n) := by
  have s2 : Sp 1 (bindM (drawM (consM (lift (b2 dAdd (some (PyData.int (n : Nat))) (some (PyData.int 1)))) nilM) (G1 m__law_take)) asI) (fun o => ∃ v : Nat, o = some (v : Int)) :=
    sp_bind (sp_draw (k := 0) (n := n + 1) (sp_lift (add_nat n 1)) (by omega) (by omega)) fun d hd => by
      obtain ⟨v, rfl, _⟩ := hd
      exact ⟨_, rfl, v, rfl⟩
  have s3 := sp_slice (Φz := fun z => ∃ zs : List Nat, z = .tuple (ofN zs) ∧ zs.Nodup ∧ ∀ y ∈ zs, y < n) (sp_lift (a := PyData.tuple (ofN xs)) rfl) (sp_lift (a := (none : Option Int)) rfl) s2 (fun d l u hd hl hu => by
    subst hd
    obtain ⟨v, rfl⟩ := hu
    subst hl
    obtain ⟨h1, h2⟩ := perm_take hp v
    exact ⟨_, cut_take xs v, _, rfl, h1, h2⟩)
  have s4 := sp_app (sp_cons s3 sp_nil) (F := F1 dSort) (Φ := fun ds => ∃ ys : List Nat, ds = ofN ys ∧ Asc ys ∧ ∀ y ∈ ys, y < n) fun ds hds => by
    obtain ⟨d, r, rfl, ⟨zs, rfl, z1, z2⟩, rfl⟩ := hds
    obtain ⟨ys, h1, h2, h3⟩ := sort_places z1 z2 hn
    exact ⟨_, h1, ys, rfl, h2, h3⟩
  refine (sp_app (sp_cons (sp_lst s4) sp_nil) (F := F1 dTup) (Φ := fun d => ∃ ys : List Nat, d = .tuple (ofN ys) ∧ Asc ys ∧ ∀ y ∈ ys, y < n) fun ds hds => ?_).mono (by omega) fun _ h => h
  obtain ⟨d, r, rfl, ⟨es, rfl, ys, rfl, h1, h2⟩, rfl⟩ := hds
  exact ⟨_, rfl, ys, rfl, h1, h2⟩
theorem ix_lastL {xs : List Nat} (h : xs ≠ []) : b2 dIx (some (PyData.tuple (ofN xs))) (b2 dSub (C1 dLen (some (PyData.tuple (ofN xs)))) (some (PyData.int 1))) = some (.int (xs.getLastD 0 : Nat)) := by
  have h0 : 0 < xs.length := List.length_pos_iff.mpr h
  have e : b2 dSub (C1 dLen (some (PyData.tuple (ofN xs)))) (some (PyData.int 1)) = some (.int ((xs.length - 1 : Nat) : Int)) := by
    rw [len_tup]
    exact sub_nat (b := 1) (by omega)
  have g : xs[xs.length - 1]'(by omega) = xs.getLastD 0 := by
    cases xs with
    | nil => exact absurd rfl h
    | cons x r =>
      rw [← List.getLast_eq_getElem (List.cons_ne_nil x r), List.getLast_eq_getLastD]
      exact (List.getLastD_cons ..).symm
  rw [e, ix_tup (by omega), g]
theorem getLastD_mem {xs : List Nat} (h : xs ≠ []) : xs.getLastD 0 ∈ xs := by
  cases xs with
  | nil => exact absurd rfl h
  | cons x r =>
    have : (x :: r).getLastD 0 = (x :: r).getLast (List.cons_ne_nil x r) := by rw [List.getLast_eq_getLastD]; exact List.getLastD_cons ..
    rw [this]
    exact List.getLast_mem _
def walkI (web1 s4 : D) (kk5 : D → Nat → Prop) : Nat → Prop := ((lstM (lift (lcO ((C2 m__law_near (some web1) (b2 dIx (some s4) (b2 dSub (C1 dLen (some s4)) (some (PyData.int 1))))).bind dItems) fun one10 => turnO ((b2 (dIn true) (some one10) (some s4)).bind asB) (some one10)))) fun near9 => (ifK (lift ((b2 dNe (some near9) ((some []).map PyData.list)).bind asB)) ((op2 dAdd (lift (some s4)) (tupM (consM (drawM (consM (lift (some near9)) nilM) (G1 m__law_one_of)) nilM))) fun found11 => (kk5 found11)) (kk5 s4)))
@[irreducible] def walkK (web1 s4 : D) (kk5 : D → Nat → Prop) : Nat → Prop := walkI web1 s4 kk5
theorem walk_eq : walkI = walkK := by
  funext w s k
  unfold walkK
  rfl
theorem walk_step {n : Nat} {ts : List (Nat × Nat)} (W : Wb n ts) {xs : List Nat} {kk : D → Nat → Prop} {m : Nat} (h0 : xs ≠ []) (hx : ∀ x ∈ xs, x < n) (hl : xs.length ≤ 100) (hm : m + 1 ≤ 1000000000) (hk : ∀ (ys : List Nat) m', m' ≤ m + 1 → ys ≠ [] → (∀ y ∈ ys, y < n) → ys.length ≤ xs.length + 1 → kk (.tuple (ofN ys)) m') : walkK (webD n ts) (.tuple (ofN xs)) kk m := by
  have hn := W.hi
  rw [← walk_eq]
  unfold walkI
  rw [ix_lastL h0, near_eval W]
  have e := lc_places (xs := nbr n ts (xs.getLastD 0)) (p := fun x => !decide (x ∈ xs)) (o := (some (PyData.tuple (ofN (nbr n ts (xs.getLastD 0))))).bind dItems) (t := fun one10 => (b2 (dIn true) (some one10) (some (PyData.tuple (ofN xs)))).bind asB) rfl (by have := nbr_len n ts (xs.getLastD 0); omega) fun x _ => by rw [notin_tup]; rfl
  rw [e]
  generalize hz : ((nbr n ts (xs.getLastD 0)).filter fun x => !decide (x ∈ xs)) = zs
  have hzn : ∀ z ∈ zs, z < n := fun z h => by
    rw [← hz] at h
    exact nbr_lt (List.mem_filter.mp h).1
  have hzl : zs.length ≤ n := by
    rw [← hz]
    exact Nat.le_trans (List.length_filter_le _ _) (nbr_len n ts _)
  refine ⟨_, rfl, ?_⟩
  cases zs with
  | nil => exact ifK_f (ne_nilL _) (hk xs m (by omega) h0 hx (by omega))
  | cons z r =>
    refine ifK_t (ne_nilL _) ?_
    refine (sp_op2 (Φ := fun d => ∃ y : Nat, y < n ∧ d = .tuple (ofN (xs ++ [y]))) (sp_lift rfl) (sp_tup (sp_cons (sp_oneL (ds := ofN (z :: r)) rfl (by rw [ofN_len]; simp) (by rw [ofN_len]; omega)) sp_nil)) (fun x y hx2 hy => ?_)).use (by omega) fun d m2 hm2 hd => ?_
    · subst hx2
      obtain ⟨ds, rfl, d, r2, rfl, hd, rfl⟩ := hy
      obtain ⟨v, hv, rfl⟩ := List.mem_map.mp hd
      refine ⟨_, add_tups (ofN xs) (ofN [v]) (by rw [ofN_len, ofN_len, sizeLine_eq]; simp only [List.length_cons, List.length_nil]; omega), v, hzn v hv, ?_⟩
      rw [ofN_app]
    · obtain ⟨y, hy, rfl⟩ := hd
      exact hk (xs ++ [y]) m2 (by omega) (by simp) (fun w hw => by
        rcases List.mem_append.mp hw with hw | hw
        · exact hx w hw
        · rw [List.mem_singleton.mp hw]; exact hy) (by simp)
theorem walk_loop {n : Nat} {ts : List (Nat × Nat)} (W : Wb n ts) {k : D → Nat → Prop} : ∀ (ds : List D) (xs : List Nat) (m : Nat), xs ≠ [] → (∀ x ∈ xs, x < n) → xs.length + ds.length ≤ 100 → m + ds.length ≤ 1000000000 → (∀ (ys : List Nat) m', m' ≤ m + ds.length → ys ≠ [] → (∀ y ∈ ys, y < n) → ys.length ≤ xs.length + ds.length → k (.tuple (ofN ys)) m') →
    forK (S := D) (fun s4 turn8 kk5 => walkK (webD n ts) s4 kk5) ds (.tuple (ofN xs)) k m
  | [], xs, m, h0, hx, _, _, hk => hk xs m (by simp) h0 hx (by simp)
  | d :: ds, xs, m, h0, hx, hl, hm, hk => by
    rw [List.length_cons] at hl hm hk
    rw [forK_cons]
    refine walk_step W h0 hx (by omega) (by omega) fun ys m' hm' y0 y1 y2 => ?_
    exact walk_loop W ds ys m' y0 y1 (by omega) (by omega) fun zs m2 hm2 z0 z1 z2 => hk zs m2 (by omega) z0 z1 (by omega)
theorem sp_walk {n : Nat} {ts : List (Nat × Nat)} (W : Wb n ts) {p : Nat} (hp : p < n) : Sp 20 (m__law_walk (webD n ts) (.int (p : Nat))) (fun d => ∃ ys : List Nat, d = .tuple (ofN ys) ∧ ys ≠ [] ∧ (∀ y ∈ ys, y < n) ∧ ys.length ≤ 13) := fun q m hm hq => by
  have hn := W.hi
  have h1 := W.lo
  unfold m__law_walk
  refine ⟨_, rfl, ?_⟩
  refine (sp_app (sp_cons (sp_draw (k := 0) (n := n) (sp_lift (web0 n ts)) (by omega) (by omega)) sp_nil) (F := dRange) (Φ := fun ds => ds.length ≤ 12) fun ds hds => ?_).use (by omega) fun ds m1 hm1 hd => ?_
  · obtain ⟨d, r, rfl, ⟨v, rfl, hv⟩, rfl⟩ := hds
    have := range_items (n := v) (by omega)
    rw [c1_some] at this
    exact ⟨_, this, by rw [ofN_len, List.length_range]; omega⟩
  refine (?_ : forK (S := D) (fun s4 turn8 kk5 => walkI (webD n ts) s4 kk5) _ _ _ _)
  rw [walk_eq]
  refine walk_loop W ds [p] m1 (by simp) (fun x hx => by rw [List.mem_singleton.mp hx]; exact hp) (by simp; omega) (by omega) fun ys m2 hm2 y0 y1 y2 => ?_
  exact ⟨_, rfl, hq _ m2 (by omega) ⟨ys, rfl, y0, y1, by simp at y2; omega⟩⟩
end Dl

set_option Elab.async false
set_option linter.all false
set_option autoImplicit false
set_option maxRecDepth 100000
set_option maxHeartbeats 1000000
namespace Dl
open PySem L2 PySem.Spec PyProof.Rows
theorem eqU_int (i : Int) (u : Value) (j : Int) (h : RelV (.int j) u) : eqU (.int i) u = decide (j = i) := by
  obtain ⟨t, rfl⟩ := h
  by_cases e : j = i
  · subst e; simp [eqU, eqV]
  · simp [eqU, eqV, e]
theorem flat_ints (ns : List Int) : (ns.map V.int).all flatV = true := List.all_eq_true.mpr fun v hv => by
  obtain ⟨n, _, rfl⟩ := List.mem_map.mp hv
  rfl
def rIndexT (K : PySem.W.Frag) : V → List V → Hp → VK → Prop := fun x xs H Q => ∃ (p : Addr) (ns : List Int) (i : Int) (j : Nat), x = V.ref p ∧ xs = [.int i] ∧ SqT K H p (ns.map V.int) ∧ ns.findIdx? (fun n => decide (n = i)) = some j ∧ Q (.int (j : Nat)) H
theorem mt_indexT {X : Cx} : MtR X "tuple.index" (rIndexT X.K) := by
  intro pins s σ H x xs v us Q I rx rs h
  obtain ⟨p, ns, i, j, rfl, rfl, hq, hf, q⟩ := h
  obtain ⟨hjn, hj1, hj2⟩ := List.findIdx?_eq_some_iff_getElem.mp hf
  cases rx
  obtain ⟨u, rfl, t, rfl⟩ := vals1 rs
  obtain ⟨its, r, ⟨⟨cl, dc, dt, sl⟩, ho, hc, n, hd⟩, _⟩ := I.tuple hq
  simp only at hc hd
  subst hc
  subst hd
  have hl : its.toArray.size = ns.length := by rw [List.size_toArray, ← r.length, List.length_map]
  have ev : ∀ (m : Nat) (hm : m < its.toArray.size) (hm2 : m < ns.length), eqU (.int i) its.toArray[m] = decide (ns[m] = i) := fun m hm hm2 => by
    obtain ⟨w, hw, rw'⟩ := r.get (i := m) (x := .int ns[m]) (by simp [hm2])
    obtain ⟨hlt, e⟩ := List.getElem?_eq_some_iff.mp hw
    have : its.toArray[m] = w := by simpa using e
    rw [this]
    exact eqU_int i w _ rw'
  refine call_meets PySem.F.slot_tuple_index ⟨_, ho, rfl⟩ PySem.F.entry_tuple_index (PySem.F.args_tuple_index_2 _ _) (TI.tuple_indexAt p its.toArray n dc sl (.int i t) (eqU (.int i)) j (by omega) ?_ ?_)
    ⟨ho, fun w hw => mem_eqAt (x := .int i) ⟨t, rfl⟩ rfl r (flat_ints ns) w (by simpa using hw), ⟨.int (j : Nat), H, I.tok _, ⟨_, rfl⟩, q⟩⟩
  · rw [ev j (by omega) hjn]
    exact hj1
  · intro m hm hmj
    rw [ev m hm (by omega)]
    simpa using hj2 m hmj
/-! ### t.index(i), xs.index(d) -/
theorem tu_obj {X : Cx} {pins : List (Addr × Obj)} {σ : L2.St} {H : Hp} {s : Shared} {p : Addr} {vs : List V} (I : Inv X pins σ H s) (h : Tu H p vs) : ∃ o, s.heap.get? p = some o ∧ o.cls = .type "tuple" ∧ o.dict = none := by
  obtain ⟨o, ⟨h1, h2⟩, h⟩ := h
  exact ⟨o, (show ObjOk X.prog X.w H s.heap p (.frz o (.tup vs)) from I.hok p _ h).1, h1, h2⟩
section
variable {X : Cx} {o e : Expr} {es : List Expr} {to : TE} {t : TA} {name : Str} {apos cpos : Pos} {id jd : String} {r r2 : V → List V → Hp → VK → Prop}
/-- o.m(..), o a list or a plain tuple -/
def tBM2 (K : PySem.W.Frag) (r r2 : V → List V → Hp → VK → Prop) (to : TE) (t : TA) : TE := fun σ H Q => to σ H fun x H1 =>
  (tyV K "list" x H1 ∧ t σ H1 fun vs H2 => r x vs H2 Q) ∨ ((∃ p vs, x = .ref p ∧ Tu H1 p vs) ∧ t σ H1 fun vs H2 => r2 x vs H2 Q)
theorem pe_bm2 (slot : Slot "list" name id) (hty : typeOf (.builtin id) = pure (.type "method_descriptor")) (hm : MtR X id r) (slot2 : Slot "tuple" name jd) (hty2 : typeOf (.builtin jd) = pure (.type "method_descriptor")) (hm2 : MtR X jd r2) (ho : PE X o to) (ha : PA X (e :: es) t)
    (hbase : attributeBase o name X.env (eval o X.env) = eval o X.env := by rfl)
    (hfew : ((backTo cpos (starEach (e :: es) X.env)).all (fun x => !x.1) && (backToKw cpos (keywordEach [] X.env)).all (fun x => x.1.isSome) && decide ((e :: es).length + ([] : List Keyword).length + (if ([] : List Keyword).isEmpty then 0 else 1) < 30)) = true := by rfl)
    (hline : (apos.endLine == cpos.line) = true := by rfl) (hs : starEach (e :: es) X.env = (false, eval e X.env) :: starEach es X.env := by rfl) (hplain : (backTo cpos (starEach es X.env)).any (·.1) = false := by rfl) :
    PE X (.Call (.Attribute o name apos) (e :: es) [] cpos) (tBM2 X.K r r2 to t) := by
  refine ⟨fun pins s σ H Q I h => wpAny_Call_method_late hbase hfew hline rfl (thn (ho.run pins s σ H _ I h) fun v s1 ⟨x, H1, I1, r1, q1⟩ => ?_)⟩
  have plain : ((false, eval e X.env) :: backTo cpos (starEach es X.env)).any (·.1) = false := by
    rw [List.any_cons, hplain]
    rfl
  rcases q1 with ⟨ty, q1⟩ | ⟨⟨p, vs, rfl, tu⟩, q1⟩
  · obtain ⟨h1, h2⟩ := tyV_is I1 r1 ty
    refine ⟨"list", id, PySem.F.plainAttrs_list, slot, hty, h1, h2, ?_⟩
    have hA := ha.run cpos pins s1 σ H1 _ I1 q1
    rw [hs] at hA ⊢
    exact Calls.callWith_builtin plain (Calls.evalArgs_plain (thn hA fun us s2 ⟨ws, H2, I2, r2, q2⟩ => hm pins s2 σ H2 x ws v us Q I2 r1 r2 q2))
  · cases r1
    obtain ⟨ob, g1, g2, g3⟩ := tu_obj I1 tu
    refine ⟨"tuple", jd, PySem.F.plainAttrs_tuple, slot2, hty2, ⟨ob, g1, g2⟩, fun a ea => ?_, ?_⟩
    · cases ea
      exact ⟨ob, g1, g3⟩
    have hA := ha.run cpos pins s1 σ H1 _ I1 q1
    rw [hs] at hA ⊢
    exact Calls.callWith_builtin plain (Calls.evalArgs_plain (thn hA fun us s2 ⟨ws, H2, I2, r2, q2⟩ => hm2 pins s2 σ H2 (.ref p) ws (.ref p) us Q I2 rfl r2 q2))
end
def dIndexT (ds : List D) : D → Option D
  | .int i => (intsOf ds).bind fun ns => (ns.findIdx? fun n => decide (n = i)).map fun j => .int (j : Nat)
  | _ => none
def dIdx : D → D → Option D
  | .list ds, d => dIndex (.list ds) d
  | .tuple ds, d => dIndexT ds d
  | _, _ => none
def seqB : D → Bool
  | .list _ => true
  | .tuple _ => true
  | _ => false
def idxMA (To T : M D) : M D := fun q => To fun l m => seqB l = true ∧ T (fun d m2 => lift (dIdx l d) q m2) m
def idxA (oo oe : Option D) : Option D := oo.bind fun l => if seqB l = true then oe.bind (dIdx l) else none
section
variable {X : Cx} {R : Res} {ρ : List Cell} {o e : Expr} {apos cpos : Pos}
theorem jm_indexA {To T : M D} {k : Nat} (B : Bx X k) (ho : JM X R ρ o To) (he : JM X R ρ e T) (hbase : attributeBase o "index" X.env (eval o X.env) = eval o X.env := by rfl)
    (hfew : ((backTo cpos (starEach (e :: []) X.env)).all (fun x => !x.1) && (backToKw cpos (keywordEach [] X.env)).all (fun x => x.1.isSome) && decide ((e :: ([] : List Expr)).length + ([] : List Keyword).length + (if ([] : List Keyword).isEmpty then 0 else 1) < 30)) = true := by rfl)
    (hline : (apos.endLine == cpos.line) = true := by rfl) (hst : starEach (e :: []) X.env = (false, eval e X.env) :: starEach [] X.env := by rfl) (hpl : (backTo cpos (starEach [] X.env)).any (·.1) = false := by rfl) :
    JM X R ρ (.Call (.Attribute o "index" apos) [e] [] cpos) (idxMA To T) := by
  refine PE.imp (pe_bm2 PySem.F.slot_list_index PySem.F.type_list_index (mt_indexD B.u65) PySem.F.slot_tuple_index PySem.F.type_tuple_index mt_indexT ho (pa_cons he pa_nil hst) hbase hfew hline hst hpl) fun σ H Q ⟨G, m, q, S, t, k⟩ => ⟨G, m, _, S, t, fun v d G1 H1 m1 S1 g1 r1 q1 => ?_⟩
  obtain ⟨sq, q1⟩ := q1
  cases r1 with
  | @lst p vs ds hp r =>
    refine .inl ⟨.inl ⟨rfl, _, .inl (.inl (S1.gh _ _ hp))⟩, G1, m1, _, S1, q1, fun w d G2 H2 m2 S2 g2 r2 q2 => ?_⟩
    obtain ⟨z, hz, q2⟩ := q2
    have hz : (if (SeqAt.shaped (.list ds) && SeqAt.shaped d) = true then (ds.findIdx? fun z => PyData.eqv z d).map fun j => PyData.int (j : Nat) else none) = some z := hz
    by_cases ok : (SeqAt.shaped (.list ds) && SeqAt.shaped d) = true
    · rw [if_pos ok] at hz
      obtain ⟨j, hj, rfl⟩ := Option.map_eq_some_iff.mp hz
      simp only [Bool.and_eq_true] at ok
      obtain ⟨⟨z, h1, h2⟩, h3⟩ := findIdx_first hj
      have rl : Rp G2 (.ref p) (.list ds) := .lst (g2.gg _ _ hp) (r.mono g2.gg)
      exact ⟨p, w, d, ds, j, z, rfl, rfl, (rl.mono S2.gh).dp (PyData.plain_of_canLay0 _ (SeqAt.canLay_of_shaped ok.1)), (r2.mono S2.gh).dp (PyData.plain_of_canLay0 _ (SeqAt.canLay_of_shaped ok.2)), ok.1, ok.2, h1, h2, h3, k _ _ G2 H2 m2 S2 (g1.trans S1.vh g2) (.int _) q2⟩
    · rw [if_neg ok] at hz; cases hz
  | @tup p vs ds hp r =>
    refine .inr ⟨⟨p, vs, rfl, hp.mono S1.gh⟩, G1, m1, _, S1, q1, fun w d G2 H2 m2 S2 g2 r2 q2 => ?_⟩
    obtain ⟨z, hz, q2⟩ := q2
    cases r2 with
    | int i =>
      have hz : ((intsOf ds).bind fun ns => (ns.findIdx? fun n => decide (n = i)).map fun j => PyData.int (j : Nat)) = some z := hz
      obtain ⟨ns, e1, hz⟩ := Option.bind_eq_some_iff.mp hz
      obtain ⟨j, e2, rfl⟩ := Option.map_eq_some_iff.mp hz
      obtain rfl := intsOf_eq e1
      obtain rfl := RpL.ints r
      exact ⟨p, ns, i, j, rfl, rfl, (hp.mono g2.gg).sqm S2.gh, e2, k _ _ G2 H2 m2 S2 (g1.trans S1.vh g2) (.int _) q2⟩
    | _ => cases hz
  | _ => cases sq
theorem je_indexA {oo oe : Option D} {k : Nat} (B : Bx X k) (ho : JE X R ρ o oo) (he : JE X R ρ e oe) (hbase : attributeBase o "index" X.env (eval o X.env) = eval o X.env := by rfl)
    (hfew : ((backTo cpos (starEach (e :: []) X.env)).all (fun x => !x.1) && (backToKw cpos (keywordEach [] X.env)).all (fun x => x.1.isSome) && decide ((e :: ([] : List Expr)).length + ([] : List Keyword).length + (if ([] : List Keyword).isEmpty then 0 else 1) < 30)) = true := by rfl)
    (hline : (apos.endLine == cpos.line) = true := by rfl) (hst : starEach (e :: []) X.env = (false, eval e X.env) :: starEach [] X.env := by rfl) (hpl : (backTo cpos (starEach [] X.env)).any (·.1) = false := by rfl) :
    JE X R ρ (.Call (.Attribute o "index" apos) [e] [] cpos) (idxA oo oe) := (jm_indexA B ho he hbase hfew hline hst hpl).imp fun q m h => by
  obtain ⟨l, h1, h2⟩ := lift1 h
  refine ⟨l, h1, ?_⟩
  by_cases sq : seqB l = true
  · rw [if_pos sq] at h2
    exact ⟨sq, lift1 h2⟩
  · rw [if_neg sq] at h2
    obtain ⟨_, h, _⟩ := h2
    cases h
end
end Dl

set_option Elab.async false
set_option linter.all false
set_option autoImplicit false
set_option maxRecDepth 100000
set_option maxHeartbeats 1000000
namespace Dl
open PySem L2
@[irreducible] def m_first_state (web1 deal2 : D) : Option (D) :=
  ((b2 dIx (some deal2) (some (PyData.int 0))).bind fun roots3 => (C1 dTup ((lcO (C1 (fun x => dRange [x]) (b2 dIx (some web1) (some (PyData.int 0)))) fun place4 => turnO (some true) (ifO ((b2 (dIn false) (some place4) (some roots3)).bind asB) (idxA (some roots3) (some place4)) (some (PyData.int (-1))))).map PyData.list)))
@[irreducible] def m_room_of (web1 deal2 state3 i4 : D) : Option (D) :=
  ((C1 dTup ((lcO (C1 dEnumA (some state3)) fun d => un2 d fun place6 number7 => turnO ((b2 (dIn false) (some number7) ((consO (some (PyData.int (-1))) (consO (some i4) (some []))).map PyData.tuple)).bind asB) (some place6)).map PyData.list)).bind fun lot5 => (C3 m_piece_of (some web1) (some lot5) (b2 dIx (b2 dIx (some deal2) (some (PyData.int 0))) (some i4))))
@[irreducible] def m__law_first_state (web1 deal2 : D) : Option (D) :=
  (C1 dTup ((lcO (C1 (fun x => dRange [x]) (b2 dIx (some web1) (some (PyData.int 0)))) fun place3 => turnO (some true) (ifO ((b2 (dIn false) (some place3) (b2 dIx (some deal2) (some (PyData.int 0)))).bind asB) (idxA (b2 dIx (some deal2) (some (PyData.int 0))) (some place3)) ((some (PyData.int 1)).bind dNeg))).map PyData.list))
@[irreducible] def m__law_room (web1 deal2 state3 i4 : D) : Option (D) :=
  ((C1 dTup ((lcO (C1 (fun x => dRange [x]) (b2 dIx (some web1) (some (PyData.int 0)))) fun place6 => turnO ((b2 (dIn false) (b2 dIx (some state3) (some place6)) ((consO ((some (PyData.int 1)).bind dNeg) (consO (some i4) (some []))).map PyData.list)).bind asB) (some place6)).map PyData.list)).bind fun lot5 => (C3 m__law_piece (some web1) (some lot5) (b2 dIx (b2 dIx (some deal2) (some (PyData.int 0))) (some i4))))
@[irreducible] def m__law_put (state1 place2 i3 : D) : Option (D) :=
  (b2 dAdd (b2 dAdd (slO (some state1) (some none) ((some place2).bind asI)) ((consO (some i3) (some [])).map PyData.tuple)) (slO (some state1) ((b2 dAdd (some place2) (some (PyData.int 1))).bind asI) (some none)))
/-! ### tuples of ints, taken apart -/
def ofI (zs : List Int) : List D := zs.map PyData.int
theorem ofI_len (zs : List Int) : (ofI zs).length = zs.length := List.length_map _
theorem ofN_ofI (xs : List Nat) : ofN xs = ofI (xs.map fun (i : Nat) => (i : Int)) := by
  unfold ofN ofI
  rw [List.map_map]
  rfl
theorem ofI_app (xs ys : List Int) : ofI xs ++ ofI ys = ofI (xs ++ ys) := (List.map_append).symm
theorem takeD (ds : List D) (k : Nat) : slO (some (.tuple ds)) (some none) ((some (PyData.int (k : Nat))).bind asI) = some (.tuple (ds.take k)) := by
  rw [asI_int, slO_some]
  show some (PyData.tuple (cutD _ none (some (k : Int)))) = _
  rw [cutD_lo]
theorem dropD (ds : List D) (k : Nat) (h : k ≤ ds.length) : slO (some (.tuple ds)) ((some (PyData.int (k : Nat))).bind asI) (some none) = some (.tuple (ds.drop k)) := by
  rw [asI_int, slO_some]
  show some (PyData.tuple (cutD _ (some (k : Int)) none)) = _
  unfold cutD
  rw [HT.sIx_none, HT.sIx_nat, Nat.min_eq_left h, List.take_of_length_le (by simp)]
theorem ixI {zs : List Int} {i : Nat} (h : i < zs.length) : b2 dIx (some (.tuple (ofI zs))) (some (.int (i : Nat))) = some (.int (zs.getD i 0)) := by
  have e : atI (ofI zs) ((i : Nat) : Int) = some (.int zs[i]) := atI_nat (by unfold ofI; rw [List.getElem?_map, List.getElem?_eq_getElem h]; rfl)
  have g : zs.getD i 0 = zs[i] := by rw [List.getD_eq_getElem?_getD, List.getElem?_eq_getElem h]; rfl
  rw [g]
  exact e
theorem ixL {zs : List Int} {i : Nat} (h : i < zs.length) : b2 dIx (some (.list (ofI zs))) (some (.int (i : Nat))) = some (.int (zs.getD i 0)) := by
  have e : atI (ofI zs) ((i : Nat) : Int) = some (.int zs[i]) := atI_nat (by unfold ofI; rw [List.getElem?_map, List.getElem?_eq_getElem h]; rfl)
  have g : zs.getD i 0 = zs[i] := by rw [List.getD_eq_getElem?_getD, List.getElem?_eq_getElem h]; rfl
  rw [g]
  exact e
theorem lenI (zs : List Int) : C1 dLen (some (PyData.tuple (ofI zs))) = some (.int (zs.length : Nat)) := by
  show some (PyData.int ((ofI zs).length : Nat)) = _
  rw [ofI_len]
/-! ### the places of some numbers -/
def plc (p : Int → Bool) (zs : List Int) : List Nat := (List.range zs.length).filter fun x => p (zs.getD x 0)
theorem plc_asc (p : Int → Bool) (zs : List Int) : Asc (plc p zs) := asc_filter _ (asc_range _)
theorem plc_mem {p : Int → Bool} {zs : List Int} {x : Nat} : x ∈ plc p zs ↔ x < zs.length ∧ p (zs.getD x 0) = true := by
  unfold plc
  rw [List.mem_filter, List.mem_range]
theorem plc_lt {p : Int → Bool} {zs : List Int} : ∀ x ∈ plc p zs, x < zs.length := fun x h => (plc_mem.mp h).1
theorem plc_len (p : Int → Bool) (zs : List Int) : (plc p zs).length ≤ zs.length := by
  have := List.length_filter_le (fun x => p (zs.getD x 0)) (List.range zs.length)
  rwa [List.length_range] at this
theorem plc_cons (p : Int → Bool) (z : Int) (zs : List Int) : plc p (z :: zs) = (if p z = true then [0] else []) ++ (plc p zs).map (· + 1) := by
  unfold plc
  rw [List.length_cons, List.range_succ_eq_map, List.filter_cons, List.filter_map]
  have e : ((fun x => p ((z :: zs).getD x 0)) ∘ Nat.succ) = fun x => p (zs.getD x 0) := rfl
  rw [e]
  show (if p z = true then _ else _) = _
  by_cases h : p z = true
  · rw [if_pos h, if_pos h]
    rfl
  · rw [if_neg h, if_neg h]
    rfl
theorem enum_c {t : D → Option Bool} {p : Int → Bool} : ∀ (zs : List Int) (k : Nat), (∀ z ∈ zs, t (.int z) = some (p z)) → cO (fun d => un2 d fun a b => turnO (t b) (some a)) (enumD k (ofI zs)) = some (ofN ((plc p zs).map (· + k)))
  | [], _, _ => rfl
  | z :: zs, k, h => by
    have ih := enum_c zs (k + 1) fun y hy => h y (List.mem_cons_of_mem _ hy)
    show ((un2 (.tuple [.int (k : Nat), .int z]) fun a b => turnO (t b) (some a)).bind fun o => (cO _ (enumD (k + 1) (ofI zs))).bind fun r => some (match o with | some x => x :: r | none => r)) = _
    rw [ih, plc_cons]
    dsimp only [un2]
    rw [h z List.mem_cons_self]
    have e : ((plc p zs).map (· + 1)).map (· + k) = (plc p zs).map (· + (k + 1)) := by
      rw [List.map_map]
      congr 1
      funext x
      show x + 1 + k = x + (k + 1)
      omega
    cases hp : p z with
    | true =>
      show some (PyData.int (k : Nat) :: ofN ((plc p zs).map (· + (k + 1)))) = _
      rw [if_pos rfl, List.map_append, e]
      show _ = some (PyData.int ((0 + k : Nat) : Int) :: ofN _)
      rw [Nat.zero_add]
      rfl
    | false =>
      show some (ofN ((plc p zs).map (· + (k + 1)))) = _
      rw [if_neg (by decide), List.map_append, e]
      rfl
theorem enum_plc {t : D → Option Bool} {p : Int → Bool} {zs : List Int} (h : ∀ z ∈ zs, t (.int z) = some (p z)) (hl : zs.length < sizeLine) : lcO (C1 dEnumA (some (PyData.tuple (ofI zs)))) (fun d => un2 d fun a b => turnO (t b) (some a)) = some (ofN (plc p zs)) := by
  have e := enum_c (p := p) zs 0 h
  rw [show ((plc p zs).map (· + 0)) = plc p zs from List.map_id _] at e
  show (if (enumD 0 (ofI zs)).length < sizeLine then _ else none) = _
  rw [if_pos (by rw [enumD_len, ofI_len]; exact hl)]
  exact e
theorem range_plc {t : D → Option Bool} {p : Int → Bool} {zs : List Int} {o : Option (List D)} (ho : o = some (ofN (List.range zs.length))) (h : ∀ x, x < zs.length → t (.int (x : Nat)) = some (p (zs.getD x 0))) (hl : zs.length < 100000) : lcO o (fun d => turnO (t d) (some d)) = some (ofN (plc p zs)) :=
  lc_places (xs := List.range zs.length) (p := fun x => p (zs.getD x 0)) ho (by rw [List.length_range]; exact hl) fun x hx => h x (List.mem_range.mp hx)
theorem in_two (z a b : Int) (neg : Bool) : (b2 (dIn neg) (some (PyData.int z)) (some (.tuple [.int a, .int b]))).bind asB = some (if neg then !decide (z = a ∨ z = b) else decide (z = a ∨ z = b)) := by
  have e : dIn neg (.int z) (.tuple [.int a, .int b]) = some (.bool (if neg then !(a == z || (b == z || false)) else (a == z || (b == z || false)))) := rfl
  show (dIn neg (.int z) (.tuple [.int a, .int b])).bind asB = _
  rw [e]
  have d : (a == z || (b == z || false)) = decide (z = a ∨ z = b) := by
    rw [Bool.or_false, Bool.eq_iff_iff, Bool.or_eq_true, beq_iff_eq, beq_iff_eq, decide_eq_true_eq]
    exact ⟨fun h => h.imp Eq.symm Eq.symm, fun h => h.imp Eq.symm Eq.symm⟩
  rw [d]
  cases neg <;> rfl
theorem in_twoL (z a b : Int) : (b2 (dIn false) (some (PyData.int z)) (some (.list [.int a, .int b]))).bind asB = some (decide (z = a ∨ z = b)) := in_two z a b false
/-! ### rooms -/
section
variable {n : Nat} {ts : List (Nat × Nat)} {rs ss : List Nat} {zs : List Int}
def openI (i : Nat) : Int → Bool := fun z => decide (z = -1 ∨ z = (i : Int))
noncomputable def roomL (n : Nat) (ts : List (Nat × Nat)) (rs : List Nat) (zs : List Int) (i : Nat) : List Nat := piece n ts (plc (openI i) zs) (rs.getD i 0)
theorem rs_at {i : Nat} (h : i < rs.length) : b2 dIx (some (PyData.tuple (ofN rs))) (some (PyData.int (i : Nat))) = some (.int ((rs.getD i 0 : Nat) : Int)) := by
  have g : rs.getD i 0 = rs[i] := by rw [List.getD_eq_getElem?_getD, List.getElem?_eq_getElem h]; rfl
  rw [ix_tup h, g]
theorem room_eval (hn : n ≤ 12) (hz : zs.length = n) {i : Nat} (hi : i < rs.length) (hr : ∀ r ∈ rs, r < n) : C4 m_room_of (some (webD n ts)) (some (dealD rs ss)) (some (.tuple (ofI zs))) (some (.int (i : Nat))) = some (.tuple (ofN (roomL n ts rs zs i))) := by
  rw [c4_some]
  unfold m_room_of
  have e := enum_plc (zs := zs) (p := openI i) (t := fun number7 => (b2 (dIn false) (some number7) ((consO (some (PyData.int (-1))) (consO (some (PyData.int (i : Nat))) (some []))).map PyData.tuple)).bind asB) (fun z _ => in_two z (-1) i false) (by rw [sizeLine_eq]; omega)
  rw [e, deal0, rs_at hi, tup_lst, Option.bind_some]
  have hx : rs.getD i 0 < n := by
    rw [List.getD_eq_getElem?_getD, List.getElem?_eq_getElem hi]
    exact hr _ (List.getElem_mem hi)
  exact pieceOf_eval (by omega) hx
theorem lawRoom_eval (W : Wb n ts) (hz : zs.length = n) {i : Nat} (hi : i < rs.length) (hr : ∀ r ∈ rs, r < n) : C4 m__law_room (some (webD n ts)) (some (dealD rs ss)) (some (.tuple (ofI zs))) (some (.int (i : Nat))) = some (.tuple (ofN (roomL n ts rs zs i))) := by
  have hn := W.hi
  rw [c4_some]
  unfold m__law_room
  have e := range_plc (zs := zs) (p := openI i) (o := C1 (fun x => dRange [x]) (b2 dIx (some (webD n ts)) (some (PyData.int 0)))) (t := fun place6 => (b2 (dIn false) (b2 dIx (some (PyData.tuple (ofI zs))) (some place6)) ((consO ((some (PyData.int 1)).bind dNeg) (consO (some (PyData.int (i : Nat))) (some []))).map PyData.list)).bind asB) (by rw [web0, hz]; exact range_items (by omega)) (fun x hx => by rw [ixI hx]; exact in_two _ (-1) i false) (by omega)
  rw [e, deal0, rs_at hi, tup_lst, Option.bind_some]
  have hx : rs.getD i 0 < n := by
    rw [List.getD_eq_getElem?_getD, List.getElem?_eq_getElem hi]
    exact hr _ (List.getElem_mem hi)
  have := plc_len (openI i) zs
  exact lawPiece_eval W hx (by omega)
/-! ### first states -/
def firstI (rs : List Nat) (p : Nat) : Int := if p ∈ rs then ((rs.idxOf p : Nat) : Int) else -1
def firstL (n : Nat) (rs : List Nat) : List Int := (List.range n).map (firstI rs)
theorem idx_nat {rs : List Nat} {p : Nat} (h : p ∈ rs) : idxA (some (PyData.tuple (ofN rs))) (some (PyData.int (p : Nat))) = some (.int ((rs.idxOf p : Nat) : Int)) := by
  show dIndexT (ofN rs) (.int (p : Nat)) = _
  unfold dIndexT
  dsimp only
  rw [ints_ofN]
  have e : (rs.map fun (i : Nat) => (i : Int)).findIdx? (fun n => decide (n = (p : Int))) = some (rs.idxOf p) := by
    rw [List.findIdx?_map]
    rw [List.findIdx?_eq_some_iff_getElem]
    have hl := List.idxOf_lt_length_iff.mpr h
    refine ⟨hl, ?_, fun j hj => ?_⟩
    · show decide (((rs[rs.idxOf p] : Nat) : Int) = (p : Int)) = true
      rw [List.getElem_idxOf]
      exact decide_eq_true rfl
    · show ¬ decide (((rs[j] : Nat) : Int) = (p : Int)) = true
      rw [decide_eq_true_eq]
      intro e
      have e : rs[j] = p := by omega
      exact absurd (List.not_of_lt_findIdx (p := (· == p)) (xs := rs) hj) (by simp [e])
  rw [show (some (rs.map fun (i : Nat) => (i : Int))).bind (fun ns => (ns.findIdx? fun n => decide (n = (p : Int))).map fun j => PyData.int (j : Nat)) = ((rs.map fun (i : Nat) => (i : Int)).findIdx? (fun n => decide (n = (p : Int)))).map fun j => PyData.int (j : Nat) from rfl, e]
  rfl
theorem first_one (rs : List Nat) (p : Nat) {o : Option D} (ho : o = some (.int (-1))) : ifO ((b2 (dIn false) (some (PyData.int (p : Nat))) (some (.tuple (ofN rs)))).bind asB) (idxA (some (PyData.tuple (ofN rs))) (some (PyData.int (p : Nat)))) o = some (.int (firstI rs p)) := by
  rw [in_tup, asB_bool]
  unfold firstI
  by_cases h : p ∈ rs
  · rw [decide_eq_true h, if_pos h, idx_nat h]
    rfl
  · rw [decide_eq_false h, if_neg h, ho]
    rfl
theorem firsts (hn : n < 100000) {o : Option (List D)} {f : D → Option D} (ho : o = some (ofN (List.range n))) (hf : ∀ p : Nat, p < n → f (.int (p : Nat)) = some (.int (firstI rs p))) : lcO o (fun d => turnO (some true) (f d)) = some (ofI (firstL n rs)) := by
  have e := lcO_map (oi := o) (f := f) (g := fun (i : Nat) => PyData.int i) (h := fun p => PyData.int (firstI rs p)) (List.range n) ho (by rw [List.length_range, sizeLine_eq]; omega) fun p hp => hf p (List.mem_range.mp hp)
  rw [e]
  unfold ofI firstL
  rw [List.map_map]
  rfl
theorem firstState_eval (hn : n ≤ 12) : C2 m_first_state (some (webD n ts)) (some (dealD rs ss)) = some (.tuple (ofI (firstL n rs))) := by
  rw [c2_some]
  unfold m_first_state
  rw [deal0, Option.bind_some]
  rw [firsts (n := n) (rs := rs) (by omega) (by rw [web0]; exact range_items (by omega)) fun p _ => first_one rs p rfl]
  rfl
theorem lawFirst_eval (hn : n ≤ 12) : C2 m__law_first_state (some (webD n ts)) (some (dealD rs ss)) = some (.tuple (ofI (firstL n rs))) := by
  rw [c2_some]
  unfold m__law_first_state
  rw [deal0, firsts (n := n) (rs := rs) (by omega) (by rw [web0]; exact range_items (by omega)) fun p _ => first_one rs p rfl]
  rfl
theorem first_len : (firstL n rs).length = n := by
  unfold firstL
  rw [List.length_map, List.length_range]
/-! ### one place put -/
def putL (zs : List Int) (p : Nat) (i : Int) : List Int := zs.take p ++ i :: zs.drop (p + 1)
theorem put_len {p : Nat} {i : Int} (h : p < zs.length) : (putL zs p i).length = zs.length := by
  unfold putL
  rw [List.length_append, List.length_cons, List.length_take, List.length_drop]
  omega
theorem putD (hz : zs.length ≤ 1000) {p : Nat} (hp : p < zs.length) (i : Int) : b2 dAdd (b2 dAdd (slO (some (PyData.tuple (ofI zs))) (some none) ((some (PyData.int (p : Nat))).bind asI)) ((consO (some (PyData.int i)) (some [])).map PyData.tuple)) (slO (some (PyData.tuple (ofI zs))) ((b2 dAdd (some (PyData.int (p : Nat))) (some (PyData.int 1))).bind asI) (some none)) = some (.tuple (ofI (putL zs p i))) := by
  have e1 : b2 dAdd (some (PyData.int (p : Nat))) (some (PyData.int 1)) = some (.int ((p + 1 : Nat) : Int)) := add_nat p 1
  rw [e1, takeD, dropD _ _ (by rw [ofI_len]; omega)]
  have e2 : (consO (some (PyData.int i)) (some [])).map PyData.tuple = some (.tuple (ofI [i])) := rfl
  have e3 : (ofI zs).take p = ofI (zs.take p) := (List.map_take).symm
  have e4 : (ofI zs).drop (p + 1) = ofI (zs.drop (p + 1)) := (List.map_drop).symm
  rw [e2, e3, e4, add_tups _ _ (by rw [ofI_len, ofI_len, sizeLine_eq, List.length_take]; simp only [List.length_cons, List.length_nil]; omega), ofI_app, add_tups _ _ (by rw [ofI_len, ofI_len, sizeLine_eq, List.length_append, List.length_take, List.length_drop]; simp only [List.length_cons, List.length_nil]; omega), ofI_app]
  unfold putL
  rw [List.append_assoc]
  rfl
theorem lawPut_eval (hz : zs.length ≤ 1000) {p : Nat} (hp : p < zs.length) (i : Int) : C3 m__law_put (some (.tuple (ofI zs))) (some (.int (p : Nat))) (some (.int i)) = some (.tuple (ofI (putL zs p i))) := by
  rw [c3_some]
  unfold m__law_put
  exact putD hz hp i
end
/-! ### data of ints, alike -/
theorem flat_seq {n : Nat} {ds : List D} {d : D} (hd : d = .list ds ∨ d = .tuple ds) (hl : ds.length < sizeLine) (h : ∀ e ∈ ds, flat n e = true) : flat (n + 1) d = true := by
  rcases hd with rfl | rfl
  · show (decide (ds.length < sizeLine) && ds.all (flat n)) = true
    rw [decide_eq_true hl, Bool.true_and, List.all_eq_true]
    exact h
  · show (decide (ds.length < sizeLine) && ds.all (flat n)) = true
    rw [decide_eq_true hl, Bool.true_and, List.all_eq_true]
    exact h
theorem flat_int (n : Nat) (i : Int) : flat n (.int i) = true := by
  cases n <;> rfl
theorem flat_ofI {n : Nat} {zs : List Int} (h : zs.length < 100000) : flat (n + 1) (.tuple (ofI zs)) = true := flat_seq (.inr rfl) (by rw [ofI_len, sizeLine_eq]; omega) fun e he => by
  obtain ⟨z, _, rfl⟩ := List.mem_map.mp he
  exact flat_int _ _
theorem flat_ofN {n : Nat} {xs : List Nat} (h : xs.length < 100000) : flat (n + 1) (.tuple (ofN xs)) = true := by
  rw [ofN_ofI]
  exact flat_ofI (by rw [List.length_map]; exact h)
theorem same_flatC {d : D} (h : flat 39 d = true) : C2 r__law_same (some d) (some d) = some (.bool true) := by
  rw [c2_some]
  exact same_ok h
theorem same_not {d : D} (h : flat 39 d = true) : ((C2 r__law_same (some d) (some d)).bind asT).map (!·) = some false := not_true (same_flatC h)
end Dl

set_option Elab.async false
set_option linter.all false
set_option autoImplicit false
set_option maxRecDepth 100000
set_option maxHeartbeats 1000000
namespace Dl
open PySem L2
@[irreducible] def m_is_dealing (web1 k2 value3 : D) : Option (D) :=
  (ifO (orO ((((some value3).map fun d => PyData.bool (isTy "tuple" d)).bind asT).map (!·)) ((b2 dNe (C1 dLen (some value3)) (b2 dIx (some web1) (some (PyData.int 0)))).bind asB)) (some (PyData.bool false)) (C1 dAll ((lcO ((some value3).bind dItems) fun number4 => turnO (some true) (C2 m_is_place (some k2) (some number4))).map PyData.list)))
@[irreducible] def m_part_of (dealing1 i2 : D) : Option (D) :=
  (C1 dTup ((lcO (C1 dEnumA (some dealing1)) fun d => un2 d fun place3 number4 => turnO ((b2 dEq (some number4) (some i2)).bind asB) (some place3)).map PyData.list))
@[irreducible] def m_is_parts (web1 deal2 value3 : D) : Option (D) :=
  ((some deal2).bind fun d => un2 d fun roots4 sizes5 => (ifO (((C3 m_is_dealing (some web1) (C1 dLen (some roots4)) (some value3)).bind asT).map (!·)) (some (PyData.bool false)) ((C1 dEnumA (some roots4)).bind fun ds => forO (S := Unit) (fun s6 d kk7 => un2 d fun i10 root11 => ((C2 m_part_of (some value3) (some i10)).bind fun lot12 => (ifO (orO ((b2 dNe (b2 dIx (some value3) (some root11)) (some i10)).bind asB) (orO ((b2 dNe (C1 dLen (some lot12)) (b2 dIx (some sizes5) (some i10))).bind asB) (((C2 m_hangs (some web1) (some lot12)).bind asT).map (!·)))) (some (PyData.bool false)) (kk7 ())))) ds () fun s9 => (some (PyData.bool true)))))
@[irreducible] def m_border (web1 dealing2 : D) : Option (D) :=
  (C1 dTup ((lcO ((b2 dIx (some web1) (some (PyData.int 1))).bind dItems) fun tie3 => turnO ((b2 dNe (b2 dIx (some dealing2) (b2 dIx (some tie3) (some (PyData.int 0)))) (b2 dIx (some dealing2) (b2 dIx (some tie3) (some (PyData.int 1))))).bind asB) (some tie3)).map PyData.list))
@[irreducible] def m__law_part (dealing1 i2 : D) : Option (D) :=
  (C1 dTup ((lcO (C1 (fun x => dRange [x]) (C1 dLen (some dealing1))) fun place3 => turnO ((b2 dEq (b2 dIx (some dealing1) (some place3)) (some i2)).bind asB) (some place3)).map PyData.list))
@[irreducible] def m__law_is_dealing (n1 k2 value3 : D) : Option (D) :=
  (ifO (orO ((((some value3).map fun d => PyData.bool (isTy "tuple" d)).bind asT).map (!·)) ((b2 dNe (C1 dLen (some value3)) (some n1)).bind asB)) (some (PyData.bool false)) (b2 (dIn true) (some (PyData.bool false)) ((lcO ((some value3).bind dItems) fun number4 => turnO (some true) (andV (C1 m__law_is_whole (some number4)) (chainO dLe dLt (some (PyData.int 0)) (some number4) (some k2)))).map PyData.list)))
@[irreducible] def m__law_is_parts (web1 deal2 value3 : D) : Option (D) :=
  ((some deal2).bind fun d => un2 d fun roots4 sizes5 => (ifO (((C3 m__law_is_dealing (b2 dIx (some web1) (some (PyData.int 0))) (C1 dLen (some roots4)) (some value3)).bind asT).map (!·)) (some (PyData.bool false)) ((C1 (fun x => dRange [x]) (C1 dLen (some roots4))).bind fun ds => forO (S := Unit) (fun s6 i10 kk7 => ((C2 m__law_part (some value3) (some i10)).bind fun lot11 => (ifO (orO ((b2 dNe (b2 dIx (some value3) (b2 dIx (some roots4) (some i10))) (some i10)).bind asB) (orO ((b2 dNe (C1 dLen (some lot11)) (b2 dIx (some sizes5) (some i10))).bind asB) (((C2 m__law_hangs (some web1) (some lot11)).bind asT).map (!·)))) (some (PyData.bool false)) (kk7 ())))) ds () fun s9 => (some (PyData.bool true)))))
@[irreducible] def m__law_dealings (n1 k2 roots3 : D) : Option (D) :=
  (((consO ((some []).map PyData.tuple) (some [])).map PyData.list).bind fun found4 => ((C1 (fun x => dRange [x]) (some n1)).bind fun ds => forO (S := D) (fun s5 place9 kk6 => (((ifO ((b2 (dIn false) (some place9) (some roots3)).bind asB) (consO (idxA (some roots3) (some place9)) (some [])) (C1 dRg1 (some k2))).map PyData.list).bind fun parts10 => (((some []).map PyData.list).bind fun later11 => (((some s5).bind dItems).bind fun ds => forO (S := D) (fun s12 dealing16 kk13 => ((b2 dAdd (some s12) ((lcO ((some parts10).bind dItems) fun i18 => turnO (some true) (b2 dAdd (some dealing16) ((consO (some i18) (some [])).map PyData.tuple))).map PyData.list)).bind fun later17 => (kk13 later17))) ds later11 fun s15 => ((some s15).bind fun found19 => (kk6 found19)))))) ds found4 fun s8 => (some s8)))
@[irreducible] def m__law_all_parts (web1 deal2 : D) : Option (List D) :=
  (lcO ((C3 m__law_dealings (b2 dIx (some web1) (some (PyData.int 0))) (C1 dLen (b2 dIx (some deal2) (some (PyData.int 0)))) (b2 dIx (some deal2) (some (PyData.int 0)))).bind dItems) fun one3 => turnO ((C3 m__law_is_parts (some web1) (some deal2) (some one3)).bind asT) (some one3))
theorem fine_ofN {xs : List Nat} (hl : xs.length ≤ 900) (hx : ∀ x ∈ xs, x < 1000000) : Fine (.tuple (ofN xs)) := ((smL_ofN hx).tup.mono (by omega) (Nat.le_refl _) : Sm 1000 1 _).fine
theorem rg1_nat {k : Nat} (h : k < 100000) : C1 dRg1 (some (PyData.int (k : Nat))) = some (ofN (List.range k)) := by
  have h : rgOk 0 k = true := by
    simp only [rgOk, decide_eq_true_eq]
    omega
  rw [c1_some]
  simp only [dRg1, h, if_true]
  rw [rangeD0]
  rfl
theorem ifO_ff {α : Type} (a b : Option α) : ifO (some false) a b = b := rfl
theorem ifO_tt {α : Type} (a b : Option α) : ifO (some true) a b = a := rfl
theorem un2_tup {β : Type} (a b : D) (f : D → D → Option β) : un2 (.tuple [a, b]) f = f a b := rfl
/-! ### dealings told -/
def dlgB (n k : Nat) : D → Bool
  | .tuple ds => decide (ds.length = n) && ds.all (isPl k)
  | _ => false
theorem notin_eval (ds : List D) (p : D → Bool) : b2 (dIn true) (some (PyData.bool false)) ((some (ds.map fun x => PyData.bool (p x))).map PyData.list) = some (.bool (ds.all p)) := by
  have e : ds.map (fun x => PyData.bool (p x)) = (ds.map p).map PyData.bool := by rw [List.map_map]; rfl
  rw [e, bools_notin, List.all_map]
  rfl
theorem ne_lenB (a b : Nat) : (b2 dNe (some (PyData.int a)) (some (.int b))).bind asB = some (decide (a ≠ b)) := congrArg (·.bind asB) (ne_nat a b)
section
variable {n k : Nat} {ts : List (Nat × Nat)} {rs ss : List Nat}
theorem isDealing_eval {v : D} (h : Fine v) : C3 m_is_dealing (some (webD n ts)) (some (.int (k : Nat))) (some v) = some (.bool (dlgB n k v)) := by
  rw [c3_some]
  unfold m_is_dealing
  cases v with
  | tuple ds =>
    obtain ⟨l1, l2⟩ := h.short
    have e2 : lcO ((some (PyData.tuple ds)).bind dItems) (fun number4 => turnO (some true) (C2 m_is_place (some (PyData.int (k : Nat))) (some number4))) = some (ds.map fun x => .bool (isPl k x)) := lcO_bools ds rfl l1 fun x _ => isPlace_eval k x
    rw [web0, e2, all_eval, len_tupD, ne_lenB]
    unfold dlgB
    dsimp only
    by_cases hl : ds.length = n
    · rw [decide_eq_true hl, decide_eq_false (by simpa using hl)]
      rfl
    · rw [decide_eq_false hl, decide_eq_true (p := ds.length ≠ n) hl]
      rfl
  | _ => rfl
theorem lawDealing_eval {v : D} (h : Fine v) : C3 m__law_is_dealing (some (.int (n : Nat))) (some (.int (k : Nat))) (some v) = some (.bool (dlgB n k v)) := by
  rw [c3_some]
  unfold m__law_is_dealing
  cases v with
  | tuple ds =>
    obtain ⟨l1, l2⟩ := h.short
    have e2 : lcO ((some (PyData.tuple ds)).bind dItems) (fun number4 => turnO (some true) (andV (C1 m__law_is_whole (some number4)) (chainO dLe dLt (some (PyData.int 0)) (some number4) (some (PyData.int (k : Nat)))))) = some (ds.map fun x => .bool (isPl k x)) := lcO_bools ds rfl l1 fun x _ => place_any _ x k (isWhole_eval x)
    rw [e2, notin_eval, len_tupD, ne_lenB]
    unfold dlgB
    dsimp only
    by_cases hl : ds.length = n
    · rw [decide_eq_true hl, decide_eq_false (by simpa using hl)]
      rfl
    · rw [decide_eq_false hl, decide_eq_true (p := ds.length ≠ n) hl]
      rfl
  | _ => rfl
theorem dlg_nats {v : D} (h : dlgB n k v = true) : ∃ xs : List Nat, v = .tuple (ofN xs) ∧ xs.length = n ∧ ∀ x ∈ xs, x < k := by
  cases v with
  | tuple ds =>
    have h : (decide (ds.length = n) && ds.all (isPl k)) = true := h
    rw [Bool.and_eq_true] at h
    obtain ⟨xs, rfl, hx⟩ := pl_nats h.2
    have hl := of_decide_eq_true h.1
    rw [ofN_len] at hl
    exact ⟨xs, rfl, hl, hx⟩
  | _ => cases h
theorem dlg_ofN {xs : List Nat} (hl : xs.length = n) (hx : ∀ x ∈ xs, x < k) : dlgB n k (.tuple (ofN xs)) = true := by
  show (decide ((ofN xs).length = n) && (ofN xs).all (isPl k)) = true
  rw [all_pl hx, Bool.and_true, decide_eq_true_eq, ofN_len]
  exact hl
/-! ### parts of a dealing -/
def isI (i : Int) : Int → Bool := fun z => decide (z = i)
theorem partOf_eval {zs : List Int} (hl : zs.length < 100000) (i : Int) : C2 m_part_of (some (.tuple (ofI zs))) (some (.int i)) = some (.tuple (ofN (plc (isI i) zs))) := by
  rw [c2_some]
  unfold m_part_of
  have e := enum_plc (zs := zs) (p := isI i) (t := fun number4 => (b2 dEq (some number4) (some (PyData.int i))).bind asB) (fun z _ => congrArg (·.bind asB) (eq_intB z i)) (by rw [sizeLine_eq]; omega)
  rw [e]
  rfl
theorem lawPart_eval {zs : List Int} (hl : zs.length < 100000) (i : Int) : C2 m__law_part (some (.tuple (ofI zs))) (some (.int i)) = some (.tuple (ofN (plc (isI i) zs))) := by
  rw [c2_some]
  unfold m__law_part
  have e := range_plc (zs := zs) (p := isI i) (o := C1 (fun x => dRange [x]) (C1 dLen (some (PyData.tuple (ofI zs))))) (t := fun place3 => (b2 dEq (b2 dIx (some (PyData.tuple (ofI zs))) (some place3)) (some (PyData.int i))).bind asB) (by rw [lenI]; exact range_items hl) (fun x hx => by rw [ixI hx]; exact congrArg (·.bind asB) (eq_intB _ i)) hl
  rw [e]
  rfl
/-! ### parts told -/
theorem forO_all {α : Type} {body : Unit → D → (Unit → Option D) → Option D} {g : α → D} {p : α → Bool} : ∀ (xs : List α), (∀ x ∈ xs, ∀ kk : Unit → Option D, body () (g x) kk = if p x = true then kk () else some (.bool false)) → forO body (xs.map g) () (fun _ => some (PyData.bool true)) = some (.bool (xs.all p))
  | [], _ => rfl
  | x :: xs, h => by
    rw [List.map_cons, forO_cons, h x List.mem_cons_self, forO_all xs fun y hy => h y (List.mem_cons_of_mem _ hy), List.all_cons]
    cases p x <;> rfl
theorem enumD_range : ∀ (k : Nat) (rs : List Nat), enumD k (ofN rs) = (List.range rs.length).map fun i => .tuple [.int ((k + i : Nat) : Int), .int ((rs.getD i 0 : Nat) : Int)]
  | _, [] => rfl
  | k, r :: rs => by
    have ih := enumD_range (k + 1) rs
    rw [List.length_cons, List.range_succ_eq_map, List.map_cons, List.map_map]
    show PyData.tuple [.int (k : Nat), .int (r : Nat)] :: enumD (k + 1) (ofN rs) = _
    rw [ih]
    congr 1
    refine List.map_congr_left fun i _ => ?_
    show _ = PyData.tuple [.int ((k + (i + 1) : Nat) : Int), .int ((rs.getD i 0 : Nat) : Int)]
    congr 3
    omega
/-- the part of i is right -/
noncomputable def partB (n : Nat) (ts : List (Nat × Nat)) (rs ss : List Nat) (zs : List Int) (i : Nat) : Bool :=
  decide (zs.getD (rs.getD i 0) 0 = (i : Int)) && (decide ((plc (isI i) zs).length = ss.getD i 0) && (open Classical in decide (Hangs n ts (plc (isI i) zs))))
noncomputable def partsB (n : Nat) (ts : List (Nat × Nat)) (rs ss : List Nat) (zs : List Int) : Bool := (List.range rs.length).all (partB n ts rs ss zs)
noncomputable def isPartsB (n : Nat) (ts : List (Nat × Nat)) (rs ss : List Nat) (v : D) : Bool := dlgB n rs.length v && match v with
  | .tuple ds => (match intsOf ds with | some zs => partsB n ts rs ss zs | none => false)
  | _ => false
theorem bad_if {a b c : Bool} {x y : Option Bool} {o : Option D} {kk : Unit → Option D} (hx : x = some (!b)) (hy : y = some (!c)) : ifO (orO (some (!a)) (orO x y)) (some (PyData.bool false)) (kk ()) = if (a && (b && c)) = true then kk () else some (.bool false) := by
  rw [hx, hy]
  cases a <;> cases b <;> cases c <;> rfl
theorem ne_intA (i j : Int) : (b2 dNe (some (PyData.int i)) (some (.int j))).bind asB = some (!decide (i = j)) := by
  rw [ne_intB]
  show some (decide (i ≠ j)) = _
  rw [decide_not]
theorem isParts_tup (W : Wb n ts) (hD : Deal n rs ss) {zs : List Int} (hz : zs.length = n) : (C1 dEnumA (some (PyData.tuple (ofN rs)))).bind (fun ds => forO (S := Unit) (fun s6 d kk7 => un2 d fun i10 root11 => ((C2 m_part_of (some (.tuple (ofI zs))) (some i10)).bind fun lot12 => (ifO (orO ((b2 dNe (b2 dIx (some (.tuple (ofI zs))) (some root11)) (some i10)).bind asB) (orO ((b2 dNe (C1 dLen (some lot12)) (b2 dIx (some (.tuple (ofN ss))) (some i10))).bind asB) (((C2 m_hangs (some (webD n ts)) (some lot12)).bind asT).map (!·)))) (some (PyData.bool false)) (kk7 ())))) ds () fun s9 => (some (PyData.bool true))) = some (.bool (partsB n ts rs ss zs)) := by
  have hn := W.hi
  have e : C1 dEnumA (some (PyData.tuple (ofN rs))) = some ((List.range rs.length).map fun i => PyData.tuple [.int ((i : Nat) : Int), .int ((rs.getD i 0 : Nat) : Int)]) := by
    have := enumD_range 0 rs
    simp only [Nat.zero_add] at this
    exact congrArg some this
  rw [e, Option.bind_some]
  refine forO_all (g := fun i => PyData.tuple [.int ((i : Nat) : Int), .int ((rs.getD i 0 : Nat) : Int)]) _ fun i hi kk => ?_
  have hi := List.mem_range.mp hi
  have hx : rs.getD i 0 < n := by
    rw [List.getD_eq_getElem?_getD, List.getElem?_eq_getElem hi]
    exact hD.lt _ (List.getElem_mem hi)
  dsimp only [un2]
  rw [partOf_eval (by omega), Option.bind_some, ixI (by omega), ne_intA, hangs_eval W (plc_asc _ _) (fun p hp => by have := plc_lt p hp; omega), rs_at (rs := ss) (by rw [hD.len]; exact hi), len_tup]
  exact bad_if (o := none) (by rw [ne_lenB, decide_not]) rfl
theorem lawParts_tup (W : Wb n ts) (hD : Deal n rs ss) {zs : List Int} (hz : zs.length = n) : (C1 (fun x => dRange [x]) (C1 dLen (some (PyData.tuple (ofN rs))))).bind (fun ds => forO (S := Unit) (fun s6 i10 kk7 => ((C2 m__law_part (some (.tuple (ofI zs))) (some i10)).bind fun lot11 => (ifO (orO ((b2 dNe (b2 dIx (some (.tuple (ofI zs))) (b2 dIx (some (.tuple (ofN rs))) (some i10))) (some i10)).bind asB) (orO ((b2 dNe (C1 dLen (some lot11)) (b2 dIx (some (.tuple (ofN ss))) (some i10))).bind asB) (((C2 m__law_hangs (some (webD n ts)) (some lot11)).bind asT).map (!·)))) (some (PyData.bool false)) (kk7 ())))) ds () fun s9 => (some (PyData.bool true))) = some (.bool (partsB n ts rs ss zs)) := by
  have hn := W.hi
  have hk := hD.hi
  rw [len_tup, range_items (by omega), Option.bind_some]
  refine forO_all (g := fun (i : Nat) => PyData.int ((i : Nat) : Int)) _ fun i hi kk => ?_
  have hi := List.mem_range.mp hi
  have hx : rs.getD i 0 < n := by
    rw [List.getD_eq_getElem?_getD, List.getElem?_eq_getElem hi]
    exact hD.lt _ (List.getElem_mem hi)
  have := plc_len (isI (i : Int)) zs
  rw [lawPart_eval (by omega), Option.bind_some, rs_at hi, ixI (by omega), ne_intA, lawHangs_eval W (fun p hp => by have := plc_lt p hp; omega) (by omega), rs_at (rs := ss) (by rw [hD.len]; exact hi), len_tup]
  exact bad_if (o := none) (by rw [ne_lenB, decide_not]) rfl
theorem isPartsB_ofN {xs : List Nat} (hl : xs.length = n) (hx : ∀ x ∈ xs, x < rs.length) : isPartsB n ts rs ss (.tuple (ofN xs)) = partsB n ts rs ss (xs.map fun (i : Nat) => (i : Int)) := by
  unfold isPartsB
  rw [dlg_ofN hl hx, Bool.true_and]
  dsimp only
  rw [ints_ofN]
theorem isParts_eval (W : Wb n ts) (hD : Deal n rs ss) {v : D} (h : Fine v) : C3 m_is_parts (some (webD n ts)) (some (dealD rs ss)) (some v) = some (.bool (isPartsB n ts rs ss v)) := by
  rw [c3_some]
  unfold m_is_parts
  rw [Option.bind_some]
  unfold dealD
  rw [un2_tup]
  rw [len_tup, isDealing_eval h]
  cases hv : dlgB n rs.length v with
  | false =>
    unfold isPartsB
    rw [hv]
    rfl
  | true =>
    obtain ⟨xs, rfl, hl, hx⟩ := dlg_nats hv
    rw [isPartsB_ofN hl hx, ofN_ofI xs, isParts_tup W hD (by rw [List.length_map]; exact hl)]
    rfl
theorem lawIsParts_eval (W : Wb n ts) (hD : Deal n rs ss) {v : D} (h : Fine v) : C3 m__law_is_parts (some (webD n ts)) (some (dealD rs ss)) (some v) = some (.bool (isPartsB n ts rs ss v)) := by
  rw [c3_some]
  unfold m__law_is_parts
  rw [Option.bind_some]
  unfold dealD
  rw [un2_tup]
  rw [web0, len_tup, lawDealing_eval h]
  cases hv : dlgB n rs.length v with
  | false =>
    unfold isPartsB
    rw [hv]
    rfl
  | true =>
    obtain ⟨xs, rfl, hl, hx⟩ := dlg_nats hv
    rw [isPartsB_ofN hl hx, ofN_ofI xs, ← len_tup, lawParts_tup W hD (by rw [List.length_map]; exact hl)]
    rfl
/-! ### borders -/
def borderP (ts : List (Nat × Nat)) (zs : List Int) : List (Nat × Nat) := ts.filter fun t => decide (zs.getD t.1 0 ≠ zs.getD t.2 0)
theorem border_eval (W : Wb n ts) {zs : List Int} (hz : zs.length = n) : C2 m_border (some (webD n ts)) (some (.tuple (ofI zs))) = some (.tuple ((borderP ts zs).map tieD)) := by
  have hn := W.hi
  have hf := W.few
  rw [c2_some]
  unfold m_border
  rw [web1]
  have e := lcO_filter (oi := (some (PyData.tuple (ts.map tieD))).bind dItems) (t := fun tie3 => (b2 dNe (b2 dIx (some (PyData.tuple (ofI zs))) (b2 dIx (some tie3) (some (PyData.int 0)))) (b2 dIx (some (PyData.tuple (ofI zs))) (b2 dIx (some tie3) (some (PyData.int 1))))).bind asB) (f := fun d => some d) (p := fun t => decide (zs.getD t.1 0 ≠ zs.getD t.2 0)) (g := tieD) (h := tieD) ts rfl (by rw [sizeLine_eq]; omega) (fun t ht => by
    have := W.ord t ht
    have e1 : b2 dIx (some (tieD t)) (some (PyData.int 0)) = some (.int ((t.1 : Nat) : Int)) := rfl
    have e2 : b2 dIx (some (tieD t)) (some (PyData.int 1)) = some (.int ((t.2 : Nat) : Int)) := rfl
    rw [e1, e2, ixI (by omega), ixI (by omega)]
    exact congrArg (·.bind asB) (ne_intB _ _)) fun t _ _ => rfl
  rw [e]
  rfl
theorem lawBorder_eval (W : Wb n ts) {zs : List Int} (hz : zs.length = n) : C1 dTup ((lcO ((b2 dIx (some (webD n ts)) (some (PyData.int 1))).bind dItems) fun d => un2 d fun a38 b39 => turnO ((b2 dNe (b2 dIx (some (PyData.tuple (ofI zs))) (some a38)) (b2 dIx (some (PyData.tuple (ofI zs))) (some b39))).bind asB) ((consO (some a38) (consO (some b39) (some []))).map PyData.tuple)).map PyData.list) = some (.tuple ((borderP ts zs).map tieD)) := by
  have hn := W.hi
  have hf := W.few
  rw [web1]
  have e := lcO_gen (oi := (some (PyData.tuple (ts.map tieD))).bind dItems) (F := fun d => un2 d fun a38 b39 => turnO ((b2 dNe (b2 dIx (some (PyData.tuple (ofI zs))) (some a38)) (b2 dIx (some (PyData.tuple (ofI zs))) (some b39))).bind asB) ((consO (some a38) (consO (some b39) (some []))).map PyData.tuple)) (p := fun t => decide (zs.getD t.1 0 ≠ zs.getD t.2 0)) (g := tieD) (h := tieD) ts rfl (by rw [sizeLine_eq]; omega) fun t ht => by
    have := W.ord t ht
    dsimp only [tieD, un2]
    rw [ixI (by omega), ixI (by omega), ne_intB]
    show turnO (some (decide (zs.getD t.1 0 ≠ zs.getD t.2 0))) _ = _
    by_cases h : zs.getD t.1 0 ≠ zs.getD t.2 0
    · rw [decide_eq_true h]
      rfl
    · rw [decide_eq_false h]
      rfl
  rw [e]
  rfl
/-! ### all dealings with each root in its part -/
def partsAt (k : Nat) (rs : List Nat) (p : Nat) : List Nat := if p ∈ rs then [rs.idxOf p] else List.range k
def nextL (k : Nat) (rs : List Nat) (p : Nat) (fs : List (List Nat)) : List (List Nat) := fs.flatMap fun d => (partsAt k rs p).map fun i => d ++ [i]
def dealL (k : Nat) (rs : List Nat) : Nat → List (List Nat)
  | 0 => [[]]
  | p + 1 => nextL k rs p (dealL k rs p)
def tupL (fs : List (List Nat)) : List D := fs.map fun d => .tuple (ofN d)
theorem partsAt_len (hk : 1 ≤ k) (p : Nat) : 1 ≤ (partsAt k rs p).length ∧ (partsAt k rs p).length ≤ k := by
  unfold partsAt
  split
  · exact ⟨Nat.le_refl _, hk⟩
  · rw [List.length_range]
    exact ⟨hk, Nat.le_refl _⟩
theorem next_len (p : Nat) : ∀ fs : List (List Nat), (nextL k rs p fs).length = fs.length * (partsAt k rs p).length
  | [] => by simp [nextL]
  | d :: fs => by
    have ih := next_len p fs
    unfold nextL at ih ⊢
    rw [List.flatMap_cons, List.length_append, ih, List.length_map, List.length_cons, Nat.succ_mul]
    omega
theorem deal_len (hk : 1 ≤ k) : ∀ p, 1 ≤ (dealL k rs p).length ∧ (dealL k rs p).length ≤ k ^ p
  | 0 => ⟨Nat.le_refl _, Nat.le_refl _⟩
  | p + 1 => by
    obtain ⟨h1, h2⟩ := deal_len hk p
    obtain ⟨a, b⟩ := partsAt_len (rs := rs) hk p
    show 1 ≤ (nextL k rs p (dealL k rs p)).length ∧ (nextL k rs p (dealL k rs p)).length ≤ k ^ (p + 1)
    rw [next_len, Nat.pow_succ]
    exact ⟨Nat.mul_le_mul h1 a, Nat.mul_le_mul h2 b⟩
theorem deal_mem : ∀ (p : Nat) (d : List Nat), d ∈ dealL k rs p ↔ d.length = p ∧ ∀ x, x < p → d.getD x 0 ∈ partsAt k rs x
  | 0, d => by
    show d ∈ [[]] ↔ _
    rw [List.mem_singleton]
    constructor
    · rintro rfl
      exact ⟨rfl, fun x h => by omega⟩
    · rintro ⟨h, _⟩
      exact List.eq_nil_of_length_eq_zero h
  | p + 1, d => by
    show d ∈ nextL k rs p (dealL k rs p) ↔ _
    unfold nextL
    rw [List.mem_flatMap]
    constructor
    · rintro ⟨e, he, hd⟩
      obtain ⟨i, hi, rfl⟩ := List.mem_map.mp hd
      obtain ⟨h1, h2⟩ := (deal_mem p e).mp he
      refine ⟨by rw [List.length_append, h1]; rfl, fun x hx => ?_⟩
      rw [List.getD_eq_getElem?_getD]
      by_cases hp : x < p
      · rw [List.getElem?_append_left (by omega), ← List.getD_eq_getElem?_getD]
        exact h2 x hp
      · have : x = p := by omega
        subst this
        rw [List.getElem?_append_right (by omega), h1, Nat.sub_self]
        exact hi
    · rintro ⟨h1, h2⟩
      have hne : d ≠ [] := fun e => by rw [e] at h1; cases h1
      refine ⟨d.dropLast, (deal_mem p _).mpr ⟨by rw [List.length_dropLast]; omega, fun x hx => ?_⟩, List.mem_map.mpr ⟨d.getD p 0, h2 p (by omega), ?_⟩⟩
      · have := h2 x (by omega)
        rw [List.getD_eq_getElem?_getD] at this ⊢
        rw [List.getElem?_dropLast, if_pos (by omega)]
        exact this
      · have e := List.dropLast_concat_getLast hne
        have g : d.getD p 0 = d.getLast hne := by
          rw [List.getLast_eq_getElem, List.getD_eq_getElem?_getD]
          have : d.length - 1 = p := by omega
          simp only [this]
          rw [List.getElem?_eq_getElem (by omega)]
          rfl
        rw [g]
        exact e
theorem deal_lt (hk : 1 ≤ k) (hrs : rs.length ≤ k) {d : List Nat} {p : Nat} (h : d ∈ dealL k rs p) : d.length = p ∧ ∀ x ∈ d, x < k := by
  obtain ⟨h1, h2⟩ := (deal_mem p d).mp h
  refine ⟨h1, fun x hx => ?_⟩
  obtain ⟨i, hi, rfl⟩ := List.getElem_of_mem hx
  have := h2 i (by omega)
  rw [List.getD_eq_getElem?_getD, List.getElem?_eq_getElem hi] at this
  have this : d[i] ∈ partsAt k rs i := this
  unfold partsAt at this
  split at this
  · rename_i hm
    have := List.mem_singleton.mp this
    have := List.idxOf_lt_length_iff.mpr hm
    omega
  · exact List.mem_range.mp this
theorem deals_inner {α : Type} {K : D → Option α} (ps : List Nat) (hp : ps.length ≤ 20) {f : D → D → Option D} (hf : ∀ (d : List Nat) (i : Nat), d.length ≤ 1000 → f (.tuple (ofN d)) (.int (i : Nat)) = some (.tuple (ofN (d ++ [i])))) : ∀ (fs : List (List Nat)) (acc : List (List Nat)), (∀ d ∈ fs, d.length ≤ 1000) → acc.length + fs.length * ps.length ≤ 1000000 →
    forO (S := D) (fun s12 dealing16 kk13 => ((b2 dAdd (some s12) ((lcO ((some (PyData.list (ofN ps))).bind dItems) fun i18 => turnO (some true) (f dealing16 i18)).map PyData.list)).bind fun later17 => (kk13 later17))) (tupL fs) (.list (tupL acc)) K = K (.list (tupL (acc ++ fs.flatMap fun d => ps.map fun i => d ++ [i])))
  | [], acc, _, _ => by
    rw [List.flatMap_nil, List.append_nil]
    rfl
  | d :: fs, acc, hd, hz => by
    rw [List.length_cons, Nat.succ_mul] at hz
    rw [show tupL (d :: fs) = PyData.tuple (ofN d) :: tupL fs from rfl, forO_cons]
    have e := lcO_map (oi := (some (PyData.list (ofN ps))).bind dItems) (f := fun i18 => f (.tuple (ofN d)) i18) (g := fun (i : Nat) => PyData.int i) (h := fun i => PyData.tuple (ofN (d ++ [i]))) ps rfl (by rw [sizeLine_eq]; omega) fun i _ => hf d i (hd d List.mem_cons_self)
    rw [e]
    have e2 : b2 dAdd (some (PyData.list (tupL acc))) ((some (ps.map fun i => PyData.tuple (ofN (d ++ [i])))).map PyData.list) = some (.list (tupL (acc ++ ps.map fun i => d ++ [i]))) := by
      rw [show (some (ps.map fun i => PyData.tuple (ofN (d ++ [i])))).map PyData.list = some (PyData.list (tupL (ps.map fun i => d ++ [i]))) from by unfold tupL; rw [List.map_map]; rfl]
      rw [add_lists _ _ (by unfold tupL; rw [List.length_map, List.length_map, List.length_map, sizeLine_eq]; omega)]
      unfold tupL
      rw [List.map_append]
    rw [e2, Option.bind_some]
    refine (deals_inner ps hp hf fs _ (fun e he => hd e (List.mem_cons_of_mem _ he)) (by rw [List.length_append, List.length_map]; omega)).trans ?_
    rw [List.flatMap_cons, List.append_assoc]
def lawDealsI (k2 roots3 s5 place9 : D) (kk6 : D → Option D) : Option D := (((ifO ((b2 (dIn false) (some place9) (some roots3)).bind asB) (consO (idxA (some roots3) (some place9)) (some [])) (C1 dRg1 (some k2))).map PyData.list).bind fun parts10 => (((some []).map PyData.list).bind fun later11 => (((some s5).bind dItems).bind fun ds => forO (S := D) (fun s12 dealing16 kk13 => ((b2 dAdd (some s12) ((lcO ((some parts10).bind dItems) fun i18 => turnO (some true) (b2 dAdd (some dealing16) ((consO (some i18) (some [])).map PyData.tuple))).map PyData.list)).bind fun later17 => (kk13 later17))) ds later11 fun s15 => ((some s15).bind fun found19 => (kk6 found19)))))
@[irreducible] def lawDealsK (k2 roots3 s5 place9 : D) (kk6 : D → Option D) : Option D := lawDealsI k2 roots3 s5 place9 kk6
theorem lawDeals_eq : lawDealsI = lawDealsK := by
  funext a b c d e
  unfold lawDealsK
  rfl
theorem partsAt_eval (hk : k ≤ 20) (p : Nat) : ifO ((b2 (dIn false) (some (PyData.int (p : Nat))) (some (PyData.tuple (ofN rs)))).bind asB) (consO (idxA (some (PyData.tuple (ofN rs))) (some (PyData.int (p : Nat)))) (some [])) (C1 dRg1 (some (PyData.int (k : Nat)))) = some (ofN (partsAt k rs p)) := by
  rw [in_tup, asB_bool]
  unfold partsAt
  by_cases h : p ∈ rs
  · rw [decide_eq_true h, if_pos h, idx_nat h]
    rfl
  · rw [decide_eq_false h, if_neg h, ifO_ff, rg1_nat (by omega)]
theorem deal_step (hk : k ≤ 20) (p : Nat) {fs : List (List Nat)} (hd : ∀ d ∈ fs, d.length ≤ 1000) (hz : fs.length * k ≤ 1000000) (hk1 : 1 ≤ k) {K : D → Option D} : lawDealsK (.int (k : Nat)) (.tuple (ofN rs)) (.list (tupL fs)) (.int (p : Nat)) K = K (.list (tupL (nextL k rs p fs))) := by
  rw [← lawDeals_eq]
  unfold lawDealsI
  rw [partsAt_eval hk p]
  have hp := (partsAt_len (rs := rs) hk1 p).2
  have hle : fs.length * (partsAt k rs p).length ≤ fs.length * k := Nat.mul_le_mul_left _ hp
  refine (deals_inner (f := fun dealing16 i18 => b2 dAdd (some dealing16) ((consO (some i18) (some [])).map PyData.tuple)) (partsAt k rs p) (by omega) (fun d i hd => ?_) fs [] hd (by simp only [List.length_nil]; omega)).trans ?_
  · have e : (consO (some (PyData.int (i : Nat))) (some [])).map PyData.tuple = some (.tuple (ofN [i])) := rfl
    rw [e, add_tups _ _ (by rw [ofN_len, ofN_len, sizeLine_eq]; simp only [List.length_cons, List.length_nil]; omega), ofN_app]
  · rw [List.nil_append]
    rfl
theorem deal_loop (hk : k ≤ 20) (hk1 : 1 ≤ k) {K : D → Option D} : ∀ (j p : Nat), p + j ≤ 100 → k ^ (p + j) ≤ 1000000 → forO (S := D) (fun s5 place9 kk6 => lawDealsK (.int (k : Nat)) (.tuple (ofN rs)) s5 place9 kk6) (ofN ((List.range j).map fun i => p + i)) (.list (tupL (dealL k rs p))) K = K (.list (tupL (dealL k rs (p + j))))
  | 0, p, _, _ => rfl
  | j + 1, p, h, hz => by
    rw [List.range_succ_eq_map, List.map_cons, List.map_map]
    have e : ofN ((p + 0) :: (List.range j).map ((fun i => p + i) ∘ Nat.succ)) = PyData.int ((p : Nat) : Int) :: ofN ((List.range j).map fun i => (p + 1) + i) := by
      have : (List.range j).map ((fun i => p + i) ∘ Nat.succ) = (List.range j).map fun i => (p + 1) + i := List.map_congr_left fun i _ => by
        show p + (i + 1) = p + 1 + i
        omega
      rw [this]
      rfl
    rw [e, forO_cons]
    have mono : k ^ (p + 1) ≤ k ^ (p + (j + 1)) := Nat.pow_le_pow_right hk1 (by omega)
    have hl := (deal_len (rs := rs) hk1 p).2
    have h3 : (dealL k rs p).length * k ≤ k ^ (p + 1) := by
      rw [Nat.pow_succ]
      exact Nat.mul_le_mul_right k hl
    rw [deal_step hk p (fun d hd => by have := ((deal_mem p d).mp hd).1; omega) (by omega) hk1]
    have ih := deal_loop hk hk1 (K := K) j (p + 1) (by omega) (by rw [show p + 1 + j = p + (j + 1) from by omega]; exact hz)
    rw [show p + 1 + j = p + (j + 1) from by omega] at ih
    exact ih
theorem lawDealings_eval (hk1 : 1 ≤ k) (hk : k ≤ 20) (hn : n ≤ 100) (hz : k ^ n ≤ 1000000) : C3 m__law_dealings (some (.int (n : Nat))) (some (.int (k : Nat))) (some (.tuple (ofN rs))) = some (.list (tupL (dealL k rs n))) := by
  rw [c3_some]
  unfold m__law_dealings
  have e0 : (consO ((some []).map PyData.tuple) (some [])).map PyData.list = some (.list (tupL [[]])) := rfl
  rw [e0, Option.bind_some, range_items (by omega), Option.bind_some]
  refine (?_ : forO (S := D) (fun s5 place9 kk6 => lawDealsI (.int (k : Nat)) (.tuple (ofN rs)) s5 place9 kk6) (ofN (List.range n)) (.list (tupL [[]])) (fun s8 => some s8) = _)
  rw [lawDeals_eq]
  have e := deal_loop (rs := rs) hk hk1 (K := some) n 0 (by omega) (by rw [Nat.zero_add]; exact hz)
  rw [Nat.zero_add, show (List.range n).map (fun i => 0 + i) = List.range n from by simp] at e
  exact e
/-! ### all parts -/
noncomputable def allP (n : Nat) (ts : List (Nat × Nat)) (rs ss : List Nat) : List (List Nat) := (dealL rs.length rs n).filter fun d => partsB n ts rs ss (d.map fun (i : Nat) => (i : Int))
theorem lawAll_eval (W : Wb n ts) (hD : Deal n rs ss) (hz : rs.length ^ n ≤ 1000000) : C2 m__law_all_parts (some (webD n ts)) (some (dealD rs ss)) = some (tupL (allP n ts rs ss)) := by
  have hn := W.hi
  have hk := hD.hi
  have hk1 := hD.lo
  rw [c2_some]
  unfold m__law_all_parts
  rw [web0, deal0, len_tup, lawDealings_eval hk1 (by omega) (by omega) hz]
  refine lcO_filter (oi := (some (PyData.list (tupL (dealL rs.length rs n)))).bind dItems) (t := fun one3 => (C3 m__law_is_parts (some (webD n ts)) (some (dealD rs ss)) (some one3)).bind asT) (f := fun d => some d) (p := fun d => partsB n ts rs ss (d.map fun (i : Nat) => (i : Int))) (g := fun d => PyData.tuple (ofN d)) (h := fun d => PyData.tuple (ofN d)) (dealL rs.length rs n) rfl (by have := (deal_len (rs := rs) hk1 n).2; rw [sizeLine_eq]; omega) (fun d hd => ?_) fun d _ _ => rfl
  obtain ⟨h1, h2⟩ := deal_lt hk1 (Nat.le_refl _) hd
  rw [lawIsParts_eval W hD (fine_ofN (by omega) fun x hx => by have := h2 x hx; omega), isPartsB_ofN h1 h2]
  rfl
end
end Dl

set_option Elab.async false
set_option linter.all false
set_option autoImplicit false
set_option maxRecDepth 100000
set_option maxHeartbeats 1000000
namespace Dl
open PySem L2
theorem ixN_nat {n k : Nat} (h : k < n) : ixN n ((k : Nat) : Int) = some k := by
  unfold ixN
  rw [if_pos (by omega), if_pos (by omega)]
  simp
theorem ofI_set (zs : List Int) (j : Nat) (i : Int) : (ofI zs).set j (.int i) = ofI (zs.set j i) := by
  unfold ofI
  rw [List.map_set]
theorem all2_ints : ∀ {ds es : List D}, All2 (fun _ e => ∃ z : Int, e = .int z) ds es → ∃ zs : List Int, es = ofI zs ∧ zs.length = ds.length
  | [], [], _ => ⟨[], rfl, rfl⟩
  | [], _ :: _, h => h.elim
  | _ :: _, [], h => h.elim
  | _ :: ds, e :: es, ⟨⟨z, hz⟩, h⟩ => by
    obtain ⟨zs, h1, h2⟩ := all2_ints h
    exact ⟨z :: zs, by rw [hz, h1]; rfl, by rw [List.length_cons, List.length_cons, h2]⟩
theorem all2_nats {b : Nat} : ∀ {ds es : List D}, All2 (fun _ e => ∃ v : Nat, e = .int (v : Nat) ∧ v < b) ds es → ∃ xs : List Nat, es = ofN xs ∧ xs.length = ds.length ∧ ∀ x ∈ xs, x < b
  | [], [], _ => ⟨[], rfl, rfl, fun _ h => nomatch h⟩
  | [], _ :: _, h => h.elim
  | _ :: _, [], h => h.elim
  | _ :: ds, e :: es, ⟨⟨z, hz, hb⟩, h⟩ => by
    obtain ⟨zs, h1, h2, h3⟩ := all2_nats h
    refine ⟨z :: zs, by rw [hz, h1]; rfl, by rw [List.length_cons, List.length_cons, h2], fun x hx => ?_⟩
    rcases List.mem_cons.mp hx with rfl | hx
    · exact hb
    · exact h3 x hx
theorem smL_ofI {zs : List Int} (h : ∀ z ∈ zs, z.natAbs < 1000000) : SmL zs.length 0 (ofI zs) := by
  have := smL_all (ds := ofI zs) (c := 1) (e := 0) fun d hd => by
    obtain ⟨z, hz, rfl⟩ := List.mem_map.mp hd
    exact sm_int (Nat.lt_trans (h z hz) (by decide))
  rw [ofI_len, Nat.mul_one] at this
  exact this
theorem nestI {zs : List Int} (h : ∀ z ∈ zs, z.natAbs < 1000000) : nest (.tuple (ofI zs)) = true := nestL_iff.mpr fun d hd => by
  obtain ⟨z, hz, rfl⟩ := List.mem_map.mp hd
  exact decide_eq_true (p := z.natAbs < 10 ^ 50) (Nat.lt_trans (h z hz) (by decide))
section
variable {n : Nat} {ts : List (Nat × Nat)} {rs ss : List Nat}
theorem pair_repr (W : Wb n ts) (hD : Deal n rs ss) : ∃ T : Str, C1 dRepr ((consO (some (webD n ts)) (consO (some (dealD rs ss)) (some []))).map PyData.tuple) = some (.str T) := by
  obtain ⟨a1, a2, a3⟩ := nice_web W
  obtain ⟨b1, b2, b3⟩ := nice_deal hD W.hi
  refine repr_ok (d := .tuple [webD n ts, dealD rs ss]) ?_ ?_ ?_
  · show (nice (webD n ts) && (nice (dealD rs ss) && true)) = true
    rw [a1, b1]
    rfl
  · simp only [cnt, cntL]
    omega
  · simp only [PyData.depth, PyData.depthAll]
    omega
end
/-! ### lists of dealings -/
theorem pl_tupL : ∀ fs : List (List Nat), PyData.plainAll (tupL fs) = true ∧ PyData.depthAll (tupL fs) ≤ 1
  | [] => ⟨rfl, Nat.zero_le _⟩
  | f :: fs => by
    obtain ⟨h1, h2⟩ := pl_tupL fs
    obtain ⟨h3, h4⟩ := pl_ofN f
    have e : tupL (f :: fs) = PyData.tuple (ofN f) :: tupL fs := rfl
    rw [e]
    refine ⟨by simp [PyData.plainAll, PyData.plain, h1, h3], ?_⟩
    simp only [PyData.depthAll, PyData.depth, h4]
    omega
theorem ne_nilT (fs : List (List Nat)) : (b2 dNe (some (PyData.list (tupL fs))) ((some []).map PyData.list)).bind asB = some (!fs.isEmpty) := by
  obtain ⟨h1, h2⟩ := pl_tupL fs
  show (dNe (.list (tupL fs)) (.list [])).bind asB = _
  unfold dNe
  have e : eqOk (.list (tupL fs)) (.list []) = true := by
    unfold eqOk
    rw [Bool.or_eq_true]
    left
    rw [Bool.and_eq_true, decide_eq_true_eq]
    exact ⟨by simp [PyData.plain, PyData.plainAll, h1], by simp only [PyData.depth, PyData.depthAll]; omega⟩
  rw [if_pos e]
  cases fs <;> rfl
theorem takeDL (ds : List D) (k : Nat) : slO (some (.list ds)) (some none) ((some (PyData.int (k : Nat))).bind asI) = some (.list (ds.take k)) := by
  rw [asI_int, slO_some]
  show some (PyData.list (cutD _ none (some (k : Int)))) = _
  rw [cutD_lo]
theorem tupL_len (fs : List (List Nat)) : (tupL fs).length = fs.length := List.length_map _
theorem sp_ifM {β : Type} {k k2 : Nat} {o : Option Bool} {b : Bool} {Ta Tb : M β} {Φ : β → Prop} (ho : o = some b) (ha : b = true → Sp k Ta Φ) (hb : b = false → Sp k2 Tb Φ) : Sp (max k k2) (ifM (lift o) Ta Tb) Φ := fun q m hm hq => by
  refine ⟨b, ho, ?_⟩
  cases b with
  | true =>
    rw [if_pos rfl]
    exact ha rfl q m (by omega) fun a m' hm' h => hq a m' (by omega) h
  | false =>
    rw [if_neg (by decide)]
    exact hb rfl q m (by omega) fun a m' hm' h => hq a m' (by omega) h
/-- a deal with at most so many roots as one of some numbers -/
theorem sp_dealOf {n : Nat} {ts : List (Nat × Nat)} {his : List Nat} (h1 : 1 ≤ n) (h12 : n ≤ 12) (h0 : 0 < his.length) (hs : his.length < 1000) {b : Nat} (hi : ∀ h ∈ his, 1 ≤ h ∧ h ≤ b) (hb : b ≤ 1000) :
    Sp 26 (drawM (consM (lift (some (webD n ts))) (consM (drawM (consM (lift (some (PyData.list (ofN his)))) nilM) (G1 m__law_one_of)) nilM)) (G2 m__law_draw_deal)) (fun d => ∃ rs ss, d = dealD rs ss ∧ Deal n rs ss ∧ rs.length ≤ b) := fun q m hm hq => by
  have s1 : Sp 1 (drawM (consM (lift (some (PyData.list (ofN his)))) nilM) (G1 m__law_one_of)) (fun d => d ∈ ofN his) := sp_oneL rfl (by rw [ofN_len]; exact h0) (by rw [ofN_len]; omega)
  refine (sp_cons (sp_lift (a := webD n ts) rfl) (sp_cons s1 sp_nil)).use (by omega) fun ds m1 hm1 hd => ?_
  obtain ⟨d, r, rfl, rfl, e, r2, rfl, he, rfl⟩ := hd
  obtain ⟨h, hh, rfl⟩ := List.mem_map.mp he
  have hlo := hi h hh
  refine (sp_deal (n := n) (most := h) (ts := ts) h1 h12 hlo.1 (by omega)).use (by omega) fun d m2 hm2 hd => ?_
  obtain ⟨rs, ss, rfl, hD, hl⟩ := hd
  exact hq _ m2 (by omega) ⟨rs, ss, rfl, hD, by omega⟩
/-- a list of drawn numbers -/
theorem sp_nats {n k : Nat} {o o2 : Option D} (ho : C1 (fun x => dRange [x]) o = some (ofN (List.range n))) (h2 : o2 = some (.int (k : Nat))) (hn : n < 100000) (hk : 0 < k) (hk1 : k < 100000) : Sp n (lcM (lift (C1 (fun x => dRange [x]) o)) fun _ => turnM (lift (some true)) (drawM (consM (lift o2) nilM) (G1 m__law_take))) (fun es => ∃ xs : List Nat, es = ofN xs ∧ xs.length = n ∧ ∀ x ∈ xs, x < k) := by
  refine (sp_lc (k := 1) (Φ := fun _ e => ∃ v : Nat, e = .int (v : Nat) ∧ v < k) (sp_lift ho) (by rw [ofN_len, List.length_range, sizeLine_eq]; omega) fun d _ => sp_draw (k := 0) (n := k) (sp_lift h2) hk (by omega)).mono (by rw [ofN_len, List.length_range]; omega) fun es h => ?_
  obtain ⟨xs, h1, h2, h3⟩ := all2_nats h
  rw [ofN_len, List.length_range] at h2
  exact ⟨xs, h1, h2, h3⟩
theorem pow_few {a n : Nat} (ha : a ≤ 5) (hn : n ≤ 7) : a ^ n ≤ 78125 := Nat.le_trans (Nat.pow_le_pow_left ha n) (Nat.le_trans (Nat.pow_le_pow_right (by decide) hn) (by decide))
theorem fine_tupL {fs : List (List Nat)} (h : ∀ d ∈ fs, d.length ≤ 900 ∧ ∀ x ∈ d, x < 1000000) : ∀ v ∈ tupL fs, Fine v := fun v hv => by
  obtain ⟨d, hd, rfl⟩ := List.mem_map.mp hv
  exact fine_ofN (h d hd).1 (h d hd).2
end Dl

set_option Elab.async false
set_option linter.all false
set_option autoImplicit false
set_option maxRecDepth 100000
set_option maxHeartbeats 1000000
namespace Dl
open PySem L2
/-! ### x is False, x is not True -/
def rIsB (neg : Bool) : R2 := fun x y H Q => ∃ a b, x = .bl a ∧ y = .bl b ∧ Q (.bl (if neg then !decide (a = b) else decide (a = b))) H
theorem op_isB {X : Cx} : OpR X (compareOp .Is) (rIsB false) := by
  intro pins s σ H x y v u Q I rx ry h
  obtain ⟨a, b, rfl, rfl, q⟩ := h
  cases (show v = Value.bool a from rx)
  cases (show u = Value.bool b from ry)
  by_cases e : a = b
  · subst e
    exact PySem.wpAny_is_self rfl ⟨.bl true, H, I, rfl, by simpa using q⟩
  · exact PySem.wpAny_is_other rfl (fun z => e (Value.bool.inj z)) ⟨.bl false, H, I, rfl, by simpa [e] using q⟩
theorem op_isnotB {X : Cx} : OpR X (compareOp .IsNot) (rIsB true) := by
  intro pins s σ H x y v u Q I rx ry h
  obtain ⟨a, b, rfl, rfl, q⟩ := h
  cases (show v = Value.bool a from rx)
  cases (show u = Value.bool b from ry)
  by_cases e : a = b
  · subst e
    exact PySem.wpAny_isNot_self rfl ⟨.bl false, H, I, rfl, by simpa using q⟩
  · exact PySem.wpAny_isNot_other rfl (fun z => e (Value.bool.inj z)) ⟨.bl true, H, I, rfl, by simpa [e] using q⟩
def dIsB (neg : Bool) : D → D → Option D
  | .bool a, .bool b => some (.bool (if neg then !decide (a = b) else decide (a = b)))
  | _, _ => none
theorem od_isB {neg : Bool} : OpD (rIsB neg) (dIsB neg) := opd_scal fun G H x y d e z gh rx ry hf Q k => by
  cases rx with
  | bl a =>
    cases ry with
    | bl b =>
      cases hf
      exact ⟨a, b, rfl, rfl, k _ (.bl _)⟩
    | _ => cases hf
  | _ => cases hf
/-! ### f(..).append(x) -/
section
variable {α : Type} {X : Cx} {R : Res} {rk : RK α} {κ : Kt} {q : α → Nat → Prop} {ρ : List Cell} {o e : Expr} {rest : List Stmt} {pos apos cpos : Pos}
def appTK (T : M (List D)) (Te : M D) (a : Nat → Prop) : Nat → Prop := T fun ds => Te fun _ m => ds.length < sizeLine ∧ a m
theorem jk_appT {T : M (List D)} {Te : M D} {a : Nat → Prop} (ho : JL X R ρ o T) (he : JM X R ρ e Te) (hr : JK X R rk ρ rest κ q a) (hbase : attributeBase o "append" X.env (eval o X.env) = eval o X.env := by rfl)
    (hfew : ((backTo cpos (starEach (e :: []) X.env)).all (fun x => !x.1) && (backToKw cpos (keywordEach [] X.env)).all (fun x => x.1.isSome) && decide ((e :: ([] : List Expr)).length + ([] : List Keyword).length + (if ([] : List Keyword).isEmpty then 0 else 1) < 30)) = true := by rfl)
    (hline : (apos.endLine == cpos.line) = true := by rfl) (hst : starEach (e :: []) X.env = (false, eval e X.env) :: starEach [] X.env := by rfl) (hpl : (backTo cpos (starEach [] X.env)).any (·.1) = false := by rfl)
    (hs : swapsWith (.Call (.Attribute o "append" apos) [e] [] cpos) none pos.line X.env = pure false := by rfl) : JK X R rk ρ (.Expr (.Call (.Attribute o "append" apos) [e] [] cpos) pos :: rest) κ q (appTK T Te a) :=
  PSs.imp (pss_cons (ps_expr (pe_bm PySem.F.plainAttrs_list PySem.F.slot_list_append PySem.F.type_list_append mt_append ho (pa_cons he pa_nil hst) hbase hfew hline hst hpl) hs) hr) fun Dn σ H ⟨Gb, G, m, S, g, t, ls⟩ => ⟨G, m, _, S, t, fun p vs ds G1 H1 m1 S1 g1 hp gp hp1 r1 q1 => by
    have nv : ¬ R.vol p := fun v => S.vh p v hp
    refine ⟨.inl ⟨rfl, _, .inl (.inl hp1)⟩, G1, m1, _, S1, q1, fun w d G2 H2 m2 S2 g2 r2 q2 => ?_⟩
    have hp2 := g2.hh p _ nv hp1
    have gp2 : G2 p = none := g2.new p gp (by rw [hp1]; exact fun z => nomatch z)
    refine ⟨p, vs, w, rfl, rfl, hp2, by rw [r1.length]; exact q2.1, ?_⟩
    have g12 := g1.trans S1.vh g2
    have g3 : Grow R.vol G H G2 (upd H2 p (.lst (vs ++ [w]))) := g12.back hp
    have S3 : Sit R σ ρ G2 (upd H2 p (.lst (vs ++ [w]))) m2 := S.grow g3 (fun b u h => by rw [upd_ne (ne_of_none h gp2)]; exact S2.gh b u h) (fun b v => by rw [upd_ne fun z : b = p => nv (z ▸ v)]; exact S2.vh b v) (R.dm (fun b v => upd_ne fun z : b = p => nv (z ▸ v)) S2.jd)
    exact ⟨Gb, G2, m2, S3, S.tr g g3, q2.2, ls.sm (g1.gg.trans g2.gg)⟩⟩
end
section
variable {α : Type} {X : Cx} {R : Res} {rk : RK α} {κ : KtE α} {ρ : List Cell} {o e : Expr} {rest : List Stmt} {pos apos cpos : Pos}
def appTO (oo : Option (List D)) (oe : Option D) (k : Option α) : Option α := oo.bind fun ds => oe.bind fun _ => if ds.length < sizeLine then k else none
end
/-! ### a, b, c, d = e -/
def un4M : D → (D → D → D → D → Nat → Prop) → Nat → Prop
  | .tuple [a, b, c, d], k => k a b c d
  | _, _ => fun _ => False
def un4 {β : Type} : D → (D → D → D → D → Option β) → Option β
  | .tuple [a, b, c, d], f => f a b c d
  | _, _ => none
section
variable {α : Type} {X : Cx} {R : Res} {rk : RK α} {κ : Kt} {q : α → Nat → Prop} {ρ : List Cell} {e : Expr} {rest : List Stmt} {pos : Pos}
theorem jk_un4 {T : M D} {tg : Expr} {i j l o : Nat} {k : D → D → D → D → Nat → Prop} (he : JM X R ρ e T) (hg : JG X R tg [i, j, l, o] (bdT [i, j, l, o])) (hr : ∀ a b c d, JK X R rk ((((ρ.set i (.dat a)).set j (.dat b)).set l (.dat c)).set o (.dat d)) rest κ q (k a b c d))
    (hs : swapsWithSole [tg] e pos.line X.env = pure false := by rfl) (hw : swappedStores [tg] e X.env = pure none := by rfl) (h1 : (assignEach [tg] X.env).map (·.2) = [assign tg X.env] := by rfl) : JK X R rk ρ (.Assign [tg] e pos :: rest) κ q (T fun d => un4M d k) :=
  PSs.imp (pss_cons (ps_asg he hg hs hw h1) (pss_any fun z : D × D × D × D => hr z.1 z.2.1 z.2.2.1 z.2.2.2)) fun Dn σ H ⟨Gb, G, m, S, g, t, ls⟩ => ⟨G, m, _, S, t, fun v d G1 H1 m1 S1 g1 r1 q1 => by
    match d, r1, q1 with
    | .tuple [a, b, c, d], r1, q1 => exact ⟨G1, m1, _, _, _, S1, .inl r1, rfl, fun σ' S' _ _ => ⟨(a, b, c, d), Gb, G1, m1, S', S.tr g g1, q1, ls.sm g1.gg⟩⟩⟩
end
end Dl

set_option Elab.async false
set_option linter.all false
set_option autoImplicit false
set_option maxRecDepth 100000
namespace Dl
open PySem L2
def m_law (q : D → Nat → Prop) : Nat → Prop :=
  ((lift (C1 (fun x => dRange [x]) (some (PyData.int 3)))) fun ds => forK (S := Unit) (fun s1 turn5 kk2 => ((drawM (consM (lift (some (PyData.int 1))) (consM (lift (some (PyData.int 7))) nilM)) (G2 m__law_draw_web)) fun web6 => ((consDM (lift (b2 dIx (some web6) (some (PyData.int 0)))) (consDM (drawM (consM (lift (some web6)) (consM (drawM (consM (lift ((consO (some (PyData.int 3)) (consO (some (PyData.int 3)) (consO (some (PyData.int 5)) (some [])))).map PyData.list)) nilM) (G1 m__law_one_of)) nilM)) (G2 m__law_draw_deal)) nilCM)) (cel2M (fun c8 c10 => (onDM (fun n7 => (onDM (fun deal9 => ((consDM (lift (C1 dLen (b2 dIx (some deal9) (some (PyData.int 0))))) (consDM (lift (C1 dRepr ((consO (some web6) (consO (some deal9) (some []))).map PyData.tuple))) nilCM)) (cel2M (fun c12 c14 => (onDM (fun k11 => (onDM (fun text13 => ((lstM (lift (C2 m__law_all_parts (some web6) (some deal9)))) fun right15 => ((appM (consM (lstM (lcM (lift (C1 (fun x => dRange [x]) (some n7))) fun place17 => turnM (lift (some true)) (drawM (consM (lift (some k11)) nilM) (G1 m__law_take)))) nilM) (F1 dTup)) fun drawn16 => ((ifM (lift ((b2 dNe (some right15) ((some []).map PyData.list)).bind asB)) (drawM (consM (lift (some right15)) nilM) (G1 m__law_one_of)) (drawM (consM (lift (C3 m__law_dealings (some n7) (some k11) (b2 dIx (some deal9) (some (PyData.int 0))))) nilM) (G1 m__law_one_of))) fun base18 => ((lift (C2 dCatL (slO (some right15) (some none) ((some (PyData.int 3)).bind asI)) ((consO (some base18) (consO (some drawn16) (consO ((C1 dItems (some base18)).map PyData.list) (consO (slO (some base18) ((some (PyData.int 1)).bind asI) (some none)) (consO (b2 dAdd (some base18) ((consO (some (PyData.int 0)) (some [])).map PyData.tuple)) (consO (C1 dTup ((lcO ((some base18).bind dItems) fun i20 => turnO (some true) (b2 dEq (some i20) (some (PyData.int 1)))).map PyData.list)) (consO (some PyData.none) (consO ((some []).map PyData.tuple) (some []))))))))).map PyData.list))) fun values19 => ((lift (C1 (fun x => dRange [x]) (some (PyData.int 4)))) fun ds => forK (S := List D) (fun s21 again25 kk22 => ((drawM (consM (lift (some n7)) nilM) (G1 m__law_take)) fun place26 => ((appM (consM (lift (some base18)) (consM (lift (some place26)) (consM (drawM (consM (lift ((consO (some (PyData.int 0)) (consO (some (PyData.int 1)) (consO (some k11) (consO ((some (PyData.int 1)).bind dNeg) (consO (b2 dSub (some k11) (some (PyData.int 1))) (some [])))))).map PyData.list)) nilM) (G1 m__law_one_of)) nilM))) (F3 m__law_put)) fun d28 m => s21.length < sizeLine ∧ ((kk22 (s21 ++ [d28]))) m))) ds values19 fun s24 => ((bindM (op2 dAdd (op2 dAdd (lift (some (PyData.list s24))) (lstM (lcM (lift (C1 (fun x => dRange [x]) (some (PyData.int 4)))) fun again29 => turnM (lift (some true)) (drawM (consM (lift (some base18)) nilM) (G1 r__law_bent))))) (lstM (consM (drawM nilM (G0 m__law_odd)) nilM))) dItems) fun ds => forK (S := Unit) (fun s30 value34 kk31 => ((lift (C1 dRepr (some value34))) fun shown35 => (ifK (lift (((C2 r__law_same (C3 m_is_parts (some web6) (some deal9) (some value34)) (C3 m__law_is_parts (some web6) (some deal9) (some value34))).bind asT).map (!·))) ((lift (some (PyData.bool false))) q) (ifK (lift ((b2 dNe (C1 dRepr (some value34)) (some shown35)).bind asB)) ((lift (some (PyData.bool false))) q) (kk31 ()))))) ds () fun s33 => (ifK (lift (((C2 r__law_same ((lcO (C1 (fun x => dRange [x]) (some k11)) fun i36 => turnO (some true) (C2 m_part_of (some drawn16) (some i36))).map PyData.list) ((lcO (C1 (fun x => dRange [x]) (some k11)) fun i37 => turnO (some true) (C2 m__law_part (some drawn16) (some i37))).map PyData.list)).bind asT).map (!·))) ((lift (some (PyData.bool false))) q) (ifK (lift (((C2 r__law_same (C2 m_border (some web6) (some drawn16)) (C1 dTup ((lcO ((b2 dIx (some web6) (some (PyData.int 1))).bind dItems) fun d => un2 d fun a38 b39 => turnO ((b2 dNe (b2 dIx (some drawn16) (some a38)) (b2 dIx (some drawn16) (some b39))).bind asB) ((consO (some a38) (consO (some b39) (some []))).map PyData.tuple)).map PyData.list))).bind asT).map (!·))) ((lift (some (PyData.bool false))) q) (ifK (lift ((b2 dNe (C1 dRepr ((consO (some web6) (consO (some deal9) (some []))).map PyData.tuple)) (some text13)).bind asB)) ((lift (some (PyData.bool false))) q) (kk2 ()))))))))))) c14)) c12))))) c10)) c8)))))) ds () fun s4 => ((lift (some (PyData.bool true))) q))
end Dl

set_option Elab.async false
set_option linter.all false
set_option autoImplicit false
set_option maxRecDepth 100000
set_option maxHeartbeats 4000000
namespace Dl
open PySem L2
def top (i : Nat) : Stmt := PySem.Challenge.pw_rootparts_k04_parts_recognized.main.body.getD i (.Pass ⟨0, 0, 0, 0⟩)
abbrev s_is_integer : Stmt := top 1
abbrev s_is_place : Stmt := top 2
abbrev s_every_place : Stmt := top 3
abbrev s_are_tied : Stmt := top 4
abbrev s_neighbours : Stmt := top 5
abbrev s_piece_of : Stmt := top 6
abbrev s_hangs : Stmt := top 7
abbrev s_is_dealing : Stmt := top 9
abbrev s_part_of : Stmt := top 10
abbrev s_is_parts : Stmt := top 11
abbrev s_border : Stmt := top 12
abbrev s__law_open : Stmt := top 14
abbrev s__law_spread : Stmt := top 15
abbrev s__law_take : Stmt := top 16
abbrev s__law_same : Stmt := top 17
abbrev s__law_one_of : Stmt := top 18
abbrev s__law_odd : Stmt := top 19
abbrev s__law_bent : Stmt := top 20
abbrev s__law_is_whole : Stmt := top 21
abbrev s__law_draw_order : Stmt := top 22
abbrev s__law_web : Stmt := top 23
abbrev s__law_draw_web : Stmt := top 24
abbrev s__law_near : Stmt := top 25
abbrev s__law_piece : Stmt := top 26
abbrev s__law_pieces : Stmt := top 27
abbrev s__law_hangs : Stmt := top 28
abbrev s__law_draw_roots : Stmt := top 29
abbrev s__law_draw_sizes : Stmt := top 30
abbrev s__law_draw_deal : Stmt := top 31
abbrev s__law_part : Stmt := top 32
abbrev s__law_is_dealing : Stmt := top 33
abbrev s__law_is_parts : Stmt := top 34
abbrev s__law_dealings : Stmt := top 35
abbrev s__law_all_parts : Stmt := top 36
abbrev s__law_put : Stmt := top 37
abbrev s_law : Stmt := top 38
structure Tp (K : PySem.W.Frag) (mg : Str → Option Value) where
  f_is_integer : Addr
  fd_is_integer : FuncData
  F_is_integer : Fun K "is_integer" "is_integer" s_is_integer f_is_integer fd_is_integer
  m_is_integer : mg "is_integer" = some (.ref f_is_integer)
  f_is_place : Addr
  fd_is_place : FuncData
  F_is_place : Fun K "is_place" "is_place" s_is_place f_is_place fd_is_place
  m_is_place : mg "is_place" = some (.ref f_is_place)
  f_every_place : Addr
  fd_every_place : FuncData
  F_every_place : Fun K "every_place" "every_place" s_every_place f_every_place fd_every_place
  m_every_place : mg "every_place" = some (.ref f_every_place)
  f_are_tied : Addr
  fd_are_tied : FuncData
  F_are_tied : Fun K "are_tied" "are_tied" s_are_tied f_are_tied fd_are_tied
  m_are_tied : mg "are_tied" = some (.ref f_are_tied)
  f_neighbours : Addr
  fd_neighbours : FuncData
  F_neighbours : Fun K "neighbours" "neighbours" s_neighbours f_neighbours fd_neighbours
  m_neighbours : mg "neighbours" = some (.ref f_neighbours)
  f_piece_of : Addr
  fd_piece_of : FuncData
  F_piece_of : Fun K "piece_of" "piece_of" s_piece_of f_piece_of fd_piece_of
  m_piece_of : mg "piece_of" = some (.ref f_piece_of)
  f_hangs : Addr
  fd_hangs : FuncData
  F_hangs : Fun K "hangs" "hangs" s_hangs f_hangs fd_hangs
  m_hangs : mg "hangs" = some (.ref f_hangs)
  f_is_dealing : Addr
  fd_is_dealing : FuncData
  F_is_dealing : Fun K "is_dealing" "is_dealing" s_is_dealing f_is_dealing fd_is_dealing
  m_is_dealing : mg "is_dealing" = some (.ref f_is_dealing)
  f_part_of : Addr
  fd_part_of : FuncData
  F_part_of : Fun K "part_of" "part_of" s_part_of f_part_of fd_part_of
  m_part_of : mg "part_of" = some (.ref f_part_of)
  f_is_parts : Addr
  fd_is_parts : FuncData
  F_is_parts : Fun K "is_parts" "is_parts" s_is_parts f_is_parts fd_is_parts
  m_is_parts : mg "is_parts" = some (.ref f_is_parts)
  f_border : Addr
  fd_border : FuncData
  F_border : Fun K "border" "border" s_border f_border fd_border
  m_border : mg "border" = some (.ref f_border)
  f__law_open : Addr
  fd__law_open : FuncData
  F__law_open : Fun K "_law_open" "_law_open" s__law_open f__law_open fd__law_open
  m__law_open : mg "_law_open" = some (.ref f__law_open)
  f__law_spread : Addr
  fd__law_spread : FuncData
  F__law_spread : Fun K "_law_spread" "_law_spread" s__law_spread f__law_spread fd__law_spread
  m__law_spread : mg "_law_spread" = some (.ref f__law_spread)
  f__law_take : Addr
  fd__law_take : FuncData
  F__law_take : Fun K "_law_take" "_law_take" s__law_take f__law_take fd__law_take
  m__law_take : mg "_law_take" = some (.ref f__law_take)
  f__law_same : Addr
  fd__law_same : FuncData
  F__law_same : Fun K "_law_same" "_law_same" s__law_same f__law_same fd__law_same
  m__law_same : mg "_law_same" = some (.ref f__law_same)
  f__law_one_of : Addr
  fd__law_one_of : FuncData
  F__law_one_of : Fun K "_law_one_of" "_law_one_of" s__law_one_of f__law_one_of fd__law_one_of
  m__law_one_of : mg "_law_one_of" = some (.ref f__law_one_of)
  f__law_odd : Addr
  fd__law_odd : FuncData
  F__law_odd : Fun K "_law_odd" "_law_odd" s__law_odd f__law_odd fd__law_odd
  m__law_odd : mg "_law_odd" = some (.ref f__law_odd)
  f__law_bent : Addr
  fd__law_bent : FuncData
  F__law_bent : Fun K "_law_bent" "_law_bent" s__law_bent f__law_bent fd__law_bent
  m__law_bent : mg "_law_bent" = some (.ref f__law_bent)
  f__law_is_whole : Addr
  fd__law_is_whole : FuncData
  F__law_is_whole : Fun K "_law_is_whole" "_law_is_whole" s__law_is_whole f__law_is_whole fd__law_is_whole
  m__law_is_whole : mg "_law_is_whole" = some (.ref f__law_is_whole)
  f__law_draw_order : Addr
  fd__law_draw_order : FuncData
  F__law_draw_order : Fun K "_law_draw_order" "_law_draw_order" s__law_draw_order f__law_draw_order fd__law_draw_order
  m__law_draw_order : mg "_law_draw_order" = some (.ref f__law_draw_order)
  f__law_web : Addr
  fd__law_web : FuncData
  F__law_web : Fun K "_law_web" "_law_web" s__law_web f__law_web fd__law_web
  m__law_web : mg "_law_web" = some (.ref f__law_web)
  f__law_draw_web : Addr
  fd__law_draw_web : FuncData
  F__law_draw_web : Fun K "_law_draw_web" "_law_draw_web" s__law_draw_web f__law_draw_web fd__law_draw_web
  m__law_draw_web : mg "_law_draw_web" = some (.ref f__law_draw_web)
  f__law_near : Addr
  fd__law_near : FuncData
  F__law_near : Fun K "_law_near" "_law_near" s__law_near f__law_near fd__law_near
  m__law_near : mg "_law_near" = some (.ref f__law_near)
  f__law_piece : Addr
  fd__law_piece : FuncData
  F__law_piece : Fun K "_law_piece" "_law_piece" s__law_piece f__law_piece fd__law_piece
  m__law_piece : mg "_law_piece" = some (.ref f__law_piece)
  f__law_pieces : Addr
  fd__law_pieces : FuncData
  F__law_pieces : Fun K "_law_pieces" "_law_pieces" s__law_pieces f__law_pieces fd__law_pieces
  m__law_pieces : mg "_law_pieces" = some (.ref f__law_pieces)
  f__law_hangs : Addr
  fd__law_hangs : FuncData
  F__law_hangs : Fun K "_law_hangs" "_law_hangs" s__law_hangs f__law_hangs fd__law_hangs
  m__law_hangs : mg "_law_hangs" = some (.ref f__law_hangs)
  f__law_draw_roots : Addr
  fd__law_draw_roots : FuncData
  F__law_draw_roots : Fun K "_law_draw_roots" "_law_draw_roots" s__law_draw_roots f__law_draw_roots fd__law_draw_roots
  m__law_draw_roots : mg "_law_draw_roots" = some (.ref f__law_draw_roots)
  f__law_draw_sizes : Addr
  fd__law_draw_sizes : FuncData
  F__law_draw_sizes : Fun K "_law_draw_sizes" "_law_draw_sizes" s__law_draw_sizes f__law_draw_sizes fd__law_draw_sizes
  m__law_draw_sizes : mg "_law_draw_sizes" = some (.ref f__law_draw_sizes)
  f__law_draw_deal : Addr
  fd__law_draw_deal : FuncData
  F__law_draw_deal : Fun K "_law_draw_deal" "_law_draw_deal" s__law_draw_deal f__law_draw_deal fd__law_draw_deal
  m__law_draw_deal : mg "_law_draw_deal" = some (.ref f__law_draw_deal)
  f__law_part : Addr
  fd__law_part : FuncData
  F__law_part : Fun K "_law_part" "_law_part" s__law_part f__law_part fd__law_part
  m__law_part : mg "_law_part" = some (.ref f__law_part)
  f__law_is_dealing : Addr
  fd__law_is_dealing : FuncData
  F__law_is_dealing : Fun K "_law_is_dealing" "_law_is_dealing" s__law_is_dealing f__law_is_dealing fd__law_is_dealing
  m__law_is_dealing : mg "_law_is_dealing" = some (.ref f__law_is_dealing)
  f__law_is_parts : Addr
  fd__law_is_parts : FuncData
  F__law_is_parts : Fun K "_law_is_parts" "_law_is_parts" s__law_is_parts f__law_is_parts fd__law_is_parts
  m__law_is_parts : mg "_law_is_parts" = some (.ref f__law_is_parts)
  f__law_dealings : Addr
  fd__law_dealings : FuncData
  F__law_dealings : Fun K "_law_dealings" "_law_dealings" s__law_dealings f__law_dealings fd__law_dealings
  m__law_dealings : mg "_law_dealings" = some (.ref f__law_dealings)
  f__law_all_parts : Addr
  fd__law_all_parts : FuncData
  F__law_all_parts : Fun K "_law_all_parts" "_law_all_parts" s__law_all_parts f__law_all_parts fd__law_all_parts
  m__law_all_parts : mg "_law_all_parts" = some (.ref f__law_all_parts)
  f__law_put : Addr
  fd__law_put : FuncData
  F__law_put : Fun K "_law_put" "_law_put" s__law_put f__law_put fd__law_put
  m__law_put : mg "_law_put" = some (.ref f__law_put)
  f_law : Addr
  fd_law : FuncData
  F_law : Fun K "law" "law" s_law f_law fd_law
  m_law : mg "law" = some (.ref f_law)
  z_all : mg "all" = none
  z_bool : mg "bool" = none
  z_enumerate : mg "enumerate" = none
  z_int : mg "int" = none
  z_isinstance : mg "isinstance" = none
  z_len : mg "len" = none
  z_list : mg "list" = none
  z_max : mg "max" = none
  z_min : mg "min" = none
  z_range : mg "range" = none
  z_repr : mg "repr" = none
  z_set : mg "set" = none
  z_sorted : mg "sorted" = none
  z_str : mg "str" = none
  z_tuple : mg "tuple" = none
  z_zip : mg "zip" = none
section
variable {P : Program} {w : World} {K : PySem.W.Frag} {mg : Str → Option Value} {base : Heap}
theorem ok_is_integer (T : Tp K mg) : Kn P w K mg base "is_integer" 1 (spR .dat 1 (F1 m_is_integer)) := by
  refine kn_dat (N := ["value"]) (ps := ["value"]) T.F_is_integer T.m_is_integer (T.F_is_integer.binds (ps := ["value"]) fun _ _ _ _ _ _ us hl => match us, hl with | [_], _ => rfl) ⟨rfl, rfl, rfl, by decide +kernel, rfl, by decide +kernel, by decide +kernel⟩ rfl fun cdv A outer s H E B ds hl => ?_
  match ds, hl with
  | [value1], _ =>
    show JKE _ _ _ [.dat value1] _ _ (m_is_integer value1)
    unfold m_is_integer
    exact (jke_ret (je_and (je_isi (je_var 0) T.z_isinstance T.z_int rfl rfl) (je_one (je_not (je_isi (je_var 0) T.z_isinstance T.z_bool rfl rfl)))))
theorem ok_is_place (T : Tp K mg) : Kn P w K mg base "is_place" 2 (spR .dat 2 (F2 m_is_place)) := by
  refine kn_dat (N := ["n", "value"]) (ps := ["n", "value"]) T.F_is_place T.m_is_place (T.F_is_place.binds (ps := ["n", "value"]) fun _ _ _ _ _ _ us hl => match us, hl with | [_, _], _ => rfl) ⟨rfl, rfl, rfl, by decide +kernel, rfl, by decide +kernel, by decide +kernel⟩ rfl fun cdv A outer s H E B ds hl => ?_
  match ds, hl with
  | [n1, value2], _ =>
    show JKE _ _ _ [.dat n1, .dat value2] _ _ (m_is_place n1 value2)
    unfold m_is_place
    exact (jke_ret (je_and (JM.by (c1_eq _ _) (je_kn (Kn.mono (ok_is_integer T)) B (jae_cons (je_var 1) jae_nil))) (je_one (je_chain op_le (or_lt B.u0) od_le od_lt je_int (je_var 1) (je_var 0)))))
theorem ok_every_place (T : Tp K mg) : Kn P w K mg base "every_place" 1 (spR .dat 1 (F1 m_every_place)) := by
  refine kn_dat (N := ["web"]) (ps := ["web"]) T.F_every_place T.m_every_place (T.F_every_place.binds (ps := ["web"]) fun _ _ _ _ _ _ us hl => match us, hl with | [_], _ => rfl) ⟨rfl, rfl, rfl, by decide +kernel, rfl, by decide +kernel, by decide +kernel⟩ rfl fun cdv A outer s H E B ds hl => ?_
  match ds, hl with
  | [web1], _ =>
    show JKE _ _ _ [.dat web1] _ _ (m_every_place web1)
    unfold m_every_place
    exact (jke_ret (je_tg1 B T.z_tuple T.z_range (je_ix (je_var 0) je_int)))
theorem ok_are_tied (T : Tp K mg) : Kn P w K mg base "are_tied" 1 (spR .dat 3 (F3 m_are_tied)) := by
  refine kn_dat (N := ["web", "a", "b"]) (ps := ["web", "a", "b"]) T.F_are_tied T.m_are_tied (T.F_are_tied.binds (ps := ["web", "a", "b"]) fun _ _ _ _ _ _ us hl => match us, hl with | [_, _, _], _ => rfl) ⟨rfl, rfl, rfl, by decide +kernel, rfl, by decide +kernel, by decide +kernel⟩ rfl fun cdv A outer s H E B ds hl => ?_
  match ds, hl with
  | [web1, a2, b3], _ =>
    show JKE _ _ _ [.dat web1, .dat a2, .dat b3] _ _ (m_are_tied web1 a2 b3)
    unfold m_are_tied
    exact (jke_ret (je_cmp (or_in B.u65) od_in (je_tup (jae_cons (JM.by (c2_eq _ _ _) (je_callB (call_min2 B.hc) cd_min2 T.z_min rfl (jae_cons (je_var 1) (jae_cons (je_var 2) jae_nil)))) (jae_cons (JM.by (c2_eq _ _ _) (je_callB (call_max2 B.hc) cd_max2 T.z_max rfl (jae_cons (je_var 1) (jae_cons (je_var 2) jae_nil)))) jae_nil))) (je_ix (je_var 0) je_int) rfl))
theorem ok_neighbours (T : Tp K mg) : Kn P w K mg base "neighbours" 2 (spR .dat 2 (F2 m_neighbours)) := by
  refine kn_dat (N := ["web", "place", "other"]) (ps := ["web", "place"]) T.F_neighbours T.m_neighbours (T.F_neighbours.binds (ps := ["web", "place"]) fun _ _ _ _ _ _ us hl => match us, hl with | [_, _], _ => rfl) ⟨rfl, rfl, rfl, by decide +kernel, rfl, by decide +kernel, by decide +kernel⟩ rfl fun cdv A outer s H E B ds hl => ?_
  match ds, hl with
  | [web1, place2], _ =>
    show JKE _ _ _ [.dat web1, .dat place2, .no] _ _ (m_neighbours web1 place2)
    unfold m_neighbours
    exact (jke_ret (JM.by (c1_eq _ _) (je_callTy call_tupF cd_tuple T.z_tuple rfl (jae_cons (JLE.je (jle_lc1 (i := 2) (own := [("other", 2)]) B (jie_seq (JM.by (c1_eq _ _) (je_kn (Kn.mono (ok_every_place T)) B (jae_cons (je_var 0) jae_nil)))) (blkOk_by (by rfl)) (fun _ _ _ _ _ => jg_name B.nd) (fun other3 => okTE_one fun _ _ _ _ _ => (JW.jt (jwe_and (jte_cmp (or_ne B.u64) od_ne (je_var 2) (je_var 1) rfl) (jwe_and1 (jte_tru (JM.by (c3_eq _ _ _ _) (je_kn (Kn.mono (ok_are_tied T)) (B.blk _ _ _ _ _) (jae_cons (je_var 0) (jae_cons (je_var 1) (jae_cons (je_var 2) jae_nil)))))))))) (fun other3 => fun _ _ _ _ _ => (je_var 2)))) jae_nil))))
theorem ok_piece_of (T : Tp K mg) : Kn P w K mg base "piece_of" 3 (spR .dat 3 (F3 m_piece_of)) := by
  refine kn_dat (N := ["web", "lot", "place", "found", "at", "other"]) (ps := ["web", "lot", "place"]) T.F_piece_of T.m_piece_of (T.F_piece_of.binds (ps := ["web", "lot", "place"]) fun _ _ _ _ _ _ us hl => match us, hl with | [_, _, _], _ => rfl) ⟨rfl, rfl, rfl, by decide +kernel, rfl, by decide +kernel, by decide +kernel⟩ rfl fun cdv A outer s H E B ds hl => ?_
  match ds, hl with
  | [web1, lot2, place3], _ =>
    show JKE _ _ _ [.dat web1, .dat lot2, .dat place3, .no, .no, .no] _ _ (m_piece_of web1 lot2 place3)
    unfold m_piece_of
    exact (jke_parC (i := 3) (j := 4) B (jce_own (jle_lst (jae_cons (je_var 2) jae_nil)) (jce_dat je_int jce_nil)) (fun c5 c7 => (jke_onL (f := fun c => [.dat web1, .dat lot2, .dat place3, c, c7, .no]) (fun found4 => (jke_onD (f := fun c => [.dat web1, .dat lot2, .dat place3, .own found4, c, .no]) (fun at6 => (jke_while (env := fun (s8 : List D × D) => [.dat web1, .dat lot2, .dat place3, .own s8.1, .dat s8.2, .no]) (s0 := (found4, at6)) B (.same (.same (.same (.same (.same (.no .nil)))))) (fun s8 => (JT.lend (jte_cmp (or_lt B.u0) od_lt (je_var 4) (JM.by (c1_eq _ _) (je_callB call_len_seq cd_len T.z_len rfl (jae_cons (je_var 3) jae_nil))) rfl))) (fun s8 kk9 => (jke_augL (i := 3) (JLE.lend (jle_lc1 (i := 5) (own := [("other", 5)]) B (jie_seq (JM.by (c2_eq _ _ _) (je_kn (Kn.mono (ok_neighbours T)) B (jae_cons (je_var 0) (jae_cons (je_ix (je_var 3) (je_var 4)) jae_nil))))) (blkOk_by (by rfl)) (fun _ _ _ _ _ => jg_name B.nd) (fun other13 => okTE_one fun _ _ _ _ _ => (JW.jt (jwe_and (jte_cmp (or_in B.u65) od_in (je_var 5) (je_var 1) rfl) (jwe_and1 (jte_cmp (or_notIn B.u65) od_in (je_var 5) (je_var 3) rfl))))) (fun other13 => fun _ _ _ _ _ => (je_var 5)))) (fun found12 => (jke_augI (i := 4) je_int (fun at14 => (jke_nil (wk_ex (found12, at14) (.same (.same (.same (.same (.same (.no .nil))))))))) B.nd)) B.nd)) (fun s11 => (jke_give 3 (jke_ret (JM.by (c1_eq _ _) (je_callTy call_tupF cd_tuple T.z_tuple rfl (jae_cons (JLE.je (JL.by (c1_eq _ _) (jle_callB (cr_sort B.u64) cd_sort T.z_sorted rfl (jae_cons (je_var 3) jae_nil)))) jae_nil)))))))))))))
theorem ok_hangs (T : Tp K mg) : Kn P w K mg base "hangs" 4 (spR .dat 2 (F2 m_hangs)) := by
  refine kn_dat (N := ["web", "lot"]) (ps := ["web", "lot"]) T.F_hangs T.m_hangs (T.F_hangs.binds (ps := ["web", "lot"]) fun _ _ _ _ _ _ us hl => match us, hl with | [_, _], _ => rfl) ⟨rfl, rfl, rfl, by decide +kernel, rfl, by decide +kernel, by decide +kernel⟩ rfl fun cdv A outer s H E B ds hl => ?_
  match ds, hl with
  | [web1, lot2], _ =>
    show JKE _ _ _ [.dat web1, .dat lot2] _ _ (m_hangs web1 lot2)
    unfold m_hangs
    exact (jke_ret (je_and (je_cmp (or_ne B.u64) od_ne (je_var 1) (je_tup jae_nil) rfl) (je_one (je_cmp (or_eq B.u64) od_eq (JM.by (c1_eq _ _) (je_callB call_len_seq cd_len T.z_len rfl (jae_cons (JM.by (c3_eq _ _ _ _) (je_kn (Kn.mono (ok_piece_of T)) B (jae_cons (je_var 0) (jae_cons (je_var 1) (jae_cons (je_ix (je_var 1) je_int) jae_nil))))) jae_nil))) (JM.by (c1_eq _ _) (je_callB call_len_seq cd_len T.z_len rfl (jae_cons (je_var 1) jae_nil))) rfl))))
theorem ok_is_dealing (T : Tp K mg) : Kn P w K mg base "is_dealing" 3 (spR .dat 3 (F3 m_is_dealing)) := by
  refine kn_dat (N := ["web", "k", "value", "number"]) (ps := ["web", "k", "value"]) T.F_is_dealing T.m_is_dealing (T.F_is_dealing.binds (ps := ["web", "k", "value"]) fun _ _ _ _ _ _ us hl => match us, hl with | [_, _, _], _ => rfl) ⟨rfl, rfl, rfl, by decide +kernel, rfl, by decide +kernel, by decide +kernel⟩ rfl fun cdv A outer s H E B ds hl => ?_
  match ds, hl with
  | [web1, k2, value3], _ =>
    show JKE _ _ _ [.dat web1, .dat k2, .dat value3, .no] _ _ (m_is_dealing web1 k2 value3)
    unfold m_is_dealing
    exact (jke_if (JW.jt (jwe_or (jte_not (jte_tru (je_isi (je_var 2) T.z_isinstance T.z_tuple rfl rfl))) (jwe_or1 (jte_cmp (or_ne B.u64) od_ne (JM.by (c1_eq _ _) (je_callB call_len_seq cd_len T.z_len rfl (jae_cons (je_var 2) jae_nil))) (je_ix (je_var 0) je_int) rfl)))) (jke_ret je_bl) (jke_nil (jke_ret (JM.by (c1_eq _ _) (je_callB (cr_all B.hc) cd_all T.z_all rfl (jae_cons (JLE.je (jle_lc1 (i := 3) (own := [("number", 3)]) B (jie_seq (je_var 2)) (blkOk_by (by rfl)) (fun _ _ _ _ _ => jg_name B.nd) (fun number4 => okTE_nil) (fun number4 => fun _ _ _ _ _ => (JM.by (c2_eq _ _ _) (je_kn (Kn.mono (ok_is_place T)) (B.blk _ _ _ _ _) (jae_cons (je_var 1) (jae_cons (je_var 3) jae_nil))))))) jae_nil))))))
theorem ok_part_of (T : Tp K mg) : Kn P w K mg base "part_of" 1 (spR .dat 2 (F2 m_part_of)) := by
  refine kn_dat (N := ["dealing", "i", "place", "number"]) (ps := ["dealing", "i"]) T.F_part_of T.m_part_of (T.F_part_of.binds (ps := ["dealing", "i"]) fun _ _ _ _ _ _ us hl => match us, hl with | [_, _], _ => rfl) ⟨rfl, rfl, rfl, by decide +kernel, rfl, by decide +kernel, by decide +kernel⟩ rfl fun cdv A outer s H E B ds hl => ?_
  match ds, hl with
  | [dealing1, i2], _ =>
    show JKE _ _ _ [.dat dealing1, .dat i2, .no, .no] _ _ (m_part_of dealing1 i2)
    unfold m_part_of
    exact (jke_ret (JM.by (c1_eq _ _) (je_callTy call_tupF cd_tuple T.z_tuple rfl (jae_cons (JLE.je (jle_lc2 (i1 := 2) (i2 := 3) (own := [("place", 2), ("number", 3)]) B (jie_enumA T.z_enumerate (je_var 0)) (blkOk_by (by rfl)) (fun _ _ _ _ _ => jg_tup B.hc (jgs_cons (jg_name B.nd) (jgs_cons (jg_name B.nd) jgs_nil))) (fun place3 number4 => okTE_one fun _ _ _ _ _ => (jte_cmp (or_eq B.u64) od_eq (je_var 3) (je_var 1) rfl)) (fun place3 number4 => fun _ _ _ _ _ => (je_var 2)))) jae_nil))))
theorem ok_is_parts (T : Tp K mg) : Kn P w K mg base "is_parts" 5 (spR .dat 3 (F3 m_is_parts)) := by
  refine kn_dat (N := ["web", "deal", "value", "roots", "sizes", "i", "root", "lot"]) (ps := ["web", "deal", "value"]) T.F_is_parts T.m_is_parts (T.F_is_parts.binds (ps := ["web", "deal", "value"]) fun _ _ _ _ _ _ us hl => match us, hl with | [_, _, _], _ => rfl) ⟨rfl, rfl, rfl, by decide +kernel, rfl, by decide +kernel, by decide +kernel⟩ rfl fun cdv A outer s H E B ds hl => ?_
  match ds, hl with
  | [web1, deal2, value3], _ =>
    show JKE _ _ _ [.dat web1, .dat deal2, .dat value3, .no, .no, .no, .no, .no] _ _ (m_is_parts web1 deal2 value3)
    unfold m_is_parts
    exact (jke_un2 (i := 3) (j := 4) (je_var 1) (jg_tup B.hc (jgs_cons (jg_name B.nd) (jgs_cons (jg_name B.nd) jgs_nil))) fun roots4 sizes5 => (jke_if (jte_not (jte_tru (JM.by (c3_eq _ _ _ _) (je_kn (Kn.mono (ok_is_dealing T)) B (jae_cons (je_var 0) (jae_cons (JM.by (c1_eq _ _) (je_callB call_len_seq cd_len T.z_len rfl (jae_cons (je_var 3) jae_nil))) (jae_cons (je_var 2) jae_nil))))))) (jke_ret je_bl) (jke_nil (jke_for2 (i := 5) (j := 6) (env := fun (s6 : Unit) => [.dat web1, .dat deal2, .dat value3, .dat roots4, .dat sizes5, .no, .no, .no]) (s0 := ()) B (jie_enumA T.z_enumerate (je_var 3)) (jg_tup B.hc (jgs_cons (jg_name B.nd) (jgs_cons (jg_name B.nd) jgs_nil))) (.same (.same (.same (.same (.same (.no (.no (.no .nil)))))))) (fun s6 i10 root11 kk7 => (jke_st (i := 7) (st_set (JM.by (c2_eq _ _ _) (je_kn (Kn.mono (ok_part_of T)) B (jae_cons (je_var 2) (jae_cons (je_var 5) jae_nil)))) B.nd) fun lot12 => (jke_if (JW.jt (jwe_or (jte_cmp (or_ne B.u64) od_ne (je_ix (je_var 2) (je_var 6)) (je_var 5) rfl) (jwe_or (jte_cmp (or_ne B.u64) od_ne (JM.by (c1_eq _ _) (je_callB call_len_seq cd_len T.z_len rfl (jae_cons (je_var 7) jae_nil))) (je_ix (je_var 4) (je_var 5)) rfl) (jwe_or1 (jte_not (jte_tru (JM.by (c2_eq _ _ _) (je_kn (Kn.mono (ok_hangs T)) B (jae_cons (je_var 0) (jae_cons (je_var 7) jae_nil)))))))))) (jke_ret je_bl) (jke_nil (jke_nil (wk_ex () (.same (.same (.same (.same (.same (.no (.no (.no .nil)))))))))))))) (fun s9 => (jke_ret je_bl))))))
theorem ok_border (T : Tp K mg) : Kn P w K mg base "border" 1 (spR .dat 2 (F2 m_border)) := by
  refine kn_dat (N := ["web", "dealing", "tie"]) (ps := ["web", "dealing"]) T.F_border T.m_border (T.F_border.binds (ps := ["web", "dealing"]) fun _ _ _ _ _ _ us hl => match us, hl with | [_, _], _ => rfl) ⟨rfl, rfl, rfl, by decide +kernel, rfl, by decide +kernel, by decide +kernel⟩ rfl fun cdv A outer s H E B ds hl => ?_
  match ds, hl with
  | [web1, dealing2], _ =>
    show JKE _ _ _ [.dat web1, .dat dealing2, .no] _ _ (m_border web1 dealing2)
    unfold m_border
    exact (jke_ret (JM.by (c1_eq _ _) (je_callTy call_tupF cd_tuple T.z_tuple rfl (jae_cons (JLE.je (jle_lc1 (i := 2) (own := [("tie", 2)]) B (jie_seq (je_ix (je_var 0) je_int)) (blkOk_by (by rfl)) (fun _ _ _ _ _ => jg_name B.nd) (fun tie3 => okTE_one fun _ _ _ _ _ => (jte_cmp (or_ne B.u64) od_ne (je_ix (je_var 1) (je_ix (je_var 2) je_int)) (je_ix (je_var 1) (je_ix (je_var 2) je_int)) rfl)) (fun tie3 => fun _ _ _ _ _ => (je_var 2)))) jae_nil))))
theorem ok__law_open (T : Tp K mg) : Kn P w K mg base "_law_open" 1 (spOpen K m__law_open) := by
  refine kn_open (N := ["script", "cells", "k", "cell"]) (ps := ["script"]) T.F__law_open T.m__law_open (T.F__law_open.binds (ps := ["script"]) fun _ _ _ _ _ _ us hl => match us, hl with | [_], _ => rfl) ⟨rfl, rfl, rfl, by decide +kernel, rfl, by decide +kernel, by decide +kernel⟩ rfl fun cdv A outer s H E B a ns => ?_
  show JKE _ _ _ [.raw (.ref a), .no, .no, .no] _ _ (m__law_open ns)
  exact (jke_stL (i := 1) (st_setL (JL.by (c1_eq _ _) (jle_callTy call_list_of cd_list T.z_list rfl (jae_cons (je_scr 0 jo_none (jo_some je_int)) jae_nil))) B.nd) fun cells1 => (jke_for2 (i := 2) (j := 3) (env := fun (s2 : List D) => [.raw (.ref a), .own s2, .no, .no]) (s0 := cells1) B (jie_enum T.z_enumerate (je_scr 0 (jo_some je_int) (jo_some je_int))) (jg_tup B.hc (jgs_cons (jg_name B.nd) (jgs_cons (jg_name B.nd) jgs_nil))) (.same (.same (.no (.no .nil)))) (fun s2 k6 cell7 kk3 => (jke_setI 1 (JE.lend (je_op or_add od_add (je_ix (je_var 1) (je_op op_mod od_mod (JM.by (c1_eq _ _) (je_callTy call_int1 cd_int T.z_int rfl (jae_cons (je_var 2) jae_nil))) je_int)) (je_var 3))) (je_op op_mod od_mod (JM.by (c1_eq _ _) (je_callTy call_int1 cd_int T.z_int rfl (jae_cons (je_var 2) jae_nil))) je_int) fun cells8 => (jke_nil (wk_ex cells8 (.same (.same (.no (.no .nil)))))))) (fun s5 => (jke_give 1 (jke_retL (jle_lst (jae_cons (je_var 1) (jae_cons je_int (jae_cons je_int jae_nil)))))))))
theorem ok__law_spread (T : Tp K mg) : Kn P w K mg base "_law_spread" 1 (spR .dat 2 (F2 m__law_spread)) := by
  refine kn_dat (N := ["cell", "at", "primes", "one", "two", "three"]) (ps := ["cell", "at"]) T.F__law_spread T.m__law_spread (T.F__law_spread.binds (ps := ["cell", "at"]) fun _ _ _ _ _ _ us hl => match us, hl with | [_, _], _ => rfl) ⟨rfl, rfl, rfl, by decide +kernel, rfl, by decide +kernel, by decide +kernel⟩ rfl fun cdv A outer s H E B ds hl => ?_
  match ds, hl with
  | [cell1, at2], _ =>
    show JKE _ _ _ [.dat cell1, .dat at2, .no, .no, .no, .no] _ _ (m__law_spread cell1 at2)
    unfold m__law_spread
    exact (jke_if (jte_cmp op_ge od_ge (je_var 0) (je_op op_pow od_pow je_int je_int) rfl) (jke_ret (je_var 0)) (jke_nil (jke_st (i := 2) (ste_shr (st_setL (jle_lst (jae_cons je_int (jae_cons je_int (jae_cons je_int (jae_cons je_int (jae_cons je_int (jae_cons je_int (jae_cons je_int (jae_cons je_int jae_nil))))))))) B.nd)) fun primes3 => (jke_st (i := 2) (st_set (je_op or_add od_add (je_var 2) (JLE.je (jle_lst (jae_cons je_int (jae_cons je_int (jae_cons je_int (jae_cons je_int (jae_cons je_int jae_nil)))))))) B.nd) fun primes4 => (jke_st (i := 3) (st_set (je_op or_add od_add (je_op or_add od_add (je_op op_mulW od_mul (je_op op_mod od_mod (JM.by (c1_eq _ _) (je_callTy call_int1 cd_int T.z_int rfl (jae_cons (je_var 0) jae_nil))) je_int) (je_op or_add od_add (je_op op_mulW od_mul je_int (je_var 1)) je_int)) (je_op op_mulW od_mul (je_var 1) je_int)) je_int) B.nd) fun one5 => (jke_st (i := 3) (st_set (je_op op_mod od_mod (JM.by (c1_eq _ _) (je_callTy call_int1 cd_int T.z_int rfl (jae_cons (je_op op_pow od_pow (je_var 3) je_int) jae_nil))) (je_ix (je_var 2) (je_op op_mod od_mod (JM.by (c1_eq _ _) (je_callTy call_int1 cd_int T.z_int rfl (jae_cons (je_var 1) jae_nil))) je_int))) B.nd) fun one6 => (jke_st (i := 4) (st_set (je_op op_mod od_mod (JM.by (c1_eq _ _) (je_callTy call_int1 cd_int T.z_int rfl (jae_cons (je_op op_pow od_pow (je_op or_add od_add (je_op or_add od_add (je_op op_mulW od_mul (je_var 3) (je_op or_add od_add (je_var 1) je_int)) (je_op op_mod od_mod (JM.by (c1_eq _ _) (je_callTy call_int1 cd_int T.z_int rfl (jae_cons (je_var 0) jae_nil))) je_int)) je_int) je_int) jae_nil))) (je_ix (je_var 2) (je_op op_mod od_mod (JM.by (c1_eq _ _) (je_callTy call_int1 cd_int T.z_int rfl (jae_cons (je_op or_add od_add (je_var 1) je_int) jae_nil))) je_int))) B.nd) fun two7 => (jke_st (i := 5) (st_set (je_op op_mod od_mod (JM.by (c1_eq _ _) (je_callTy call_int1 cd_int T.z_int rfl (jae_cons (je_op op_pow od_pow (je_op or_add od_add (je_op or_add od_add (je_var 4) (je_op op_mod od_mod (JM.by (c1_eq _ _) (je_callTy call_int1 cd_int T.z_int rfl (jae_cons (je_var 3) jae_nil))) je_int)) (je_var 1)) je_int) jae_nil))) (je_ix (je_var 2) (je_op op_mod od_mod (JM.by (c1_eq _ _) (je_callTy call_int1 cd_int T.z_int rfl (jae_cons (je_op or_add od_add (je_var 1) je_int) jae_nil))) je_int))) B.nd) fun three8 => (jke_ret (je_op or_add od_add (je_op op_mulW od_mul (je_op or_add od_add (je_op op_mulW od_mul (je_var 3) je_int) (je_var 4)) je_int) (je_var 5)))))))))))
theorem ok__law_take (T : Tp K mg) : Kn P w K mg base "_law_take" 2 (spM .dat 1 (G1 m__law_take)) := by
  refine kn_take (N := ["pen", "amount", "found", "at", "cell"]) (ps := ["pen", "amount"]) (F0 := b__law_take) T.F__law_take T.m__law_take (T.F__law_take.binds (ps := ["pen", "amount"]) fun _ _ _ _ _ _ us hl => match us, hl with | [_, _], _ => rfl) ⟨rfl, rfl, rfl, by decide +kernel, rfl, by decide +kernel, by decide +kernel⟩ rfl take_law fun cdv A outer s H E B pa ca cs amount1 q => ?_
  show JK _ _ _ [.raw (.ref pa), .dat amount1, .no, .no, .no] _ _ _ (b__law_take cs amount1 q)
  unfold b__law_take
  exact (jk_ifJM (env := fun (s2 : Unit) => [.raw (.ref pa), .dat amount1, .no, .no, .no]) (jt_cmpM (or_lt B.u0) od_lt (jm_pix 0 (by decide)) (je_var 1) rfl) (fun kk3 => (jk_st (i := 3) (st_set (jm_pix 0 (by decide)) B.nd) fun at4 => (jk_st (i := 4) (st_set je_int B.nd) fun cell5 => (jk_ifJM (env := fun (s6 : D) => [.raw (.ref pa), .dat amount1, .no, .dat at4, .dat s6]) (jt_cmpM (or_lt B.u0) od_lt (je_var 3) (jm_callBM call_len_seq cd_len T.z_len rfl (jam_cons (jm_pix 0 (by decide)) jam_nil)) rfl) (fun kk7 => (jk_st (i := 4) (st_set (jm_ixM (jm_pix 0 (by decide)) (je_var 3)) B.nd) fun cell8 => (jk_nil (wk_exM cell8 (.same (.same (.no (.same (.same .nil))))))))) (fun kk7 => (jk_ifM (jt_cmpM op_gt od_gt (jm_callBM call_len_seq cd_len T.z_len rfl (jam_cons (jm_pix 0 (by decide)) jam_nil)) je_int rfl) (jk_st (i := 4) (st_set (jm_opM op_mod od_mod (jm_callTyM call_int1 cd_int T.z_int rfl (jam_cons (jm_ixM (jm_pix 0 (by decide)) (jm_opM op_mod od_mod (JM.by (c1_eq _ _) (je_callTy call_int1 cd_int T.z_int rfl (jae_cons (je_op or_add od_add (je_op op_mulW od_mul (je_var 3) je_int) je_int) jae_nil))) (jm_callBM call_len_seq cd_len T.z_len rfl (jam_cons (jm_pix 0 (by decide)) jam_nil)))) jam_nil)) (je_op or_add od_add (je_op op_pow od_pow je_int je_int) (je_var 3))) B.nd) fun cell9 => (jk_nil (jk_nil (wk_exM cell9 (.same (.same (.no (.same (.same .nil))))))))) (jk_nil (jk_nil (wk_exM cell5 (.same (.same (.no (.same (.same .nil)))))))))) (fun s6 => (jk_pset 0 (je_op or_add od_add (je_var 3) je_int) (jk_pset 0 (JM.by (c2_eq _ _ _) (je_kn (Kn.mono (ok__law_spread T)) B (jae_cons (je_var 4) (jae_cons (je_var 3) jae_nil)))) (jk_nil (wk_exM () (.same (.same (.no (.no (.no .nil)))))))))))))) (fun kk3 => (jk_nil (wk_exM () (.same (.same (.no (.no (.no .nil)))))))) (fun s2 => (jk_st (i := 2) (st_set (jm_opM op_mod od_mod (jm_callTyM call_int1 cd_int T.z_int rfl (jam_cons (jm_pix 0 (by decide)) jam_nil)) (je_var 1)) B.nd) fun found10 => (jk_pset 0 (jm_opM op_fdivW od_fdiv (jm_pix 0 (by decide)) (je_var 1)) (jk_ret (je_var 2))))))
theorem ok__law_same_at (T : Tp K mg) : ∀ n : Nat, Kn P w K mg base "_law_same" (0 + n) (spR .dat 2 (F2 (m__law_same n)))
  | 0 => kn_none T.F__law_same T.m__law_same (T.F__law_same.binds (ps := ["found", "due"]) fun _ _ _ _ _ _ us hl => match us, hl with | [_, _], _ => rfl) fun ds => by
    unfold F2
    split <;> rfl
  | n + 1 => by
    have ih := ok__law_same_at T n
    refine kn_dat (N := ["found", "due", "one", "other"]) (ps := ["found", "due"]) T.F__law_same T.m__law_same (T.F__law_same.binds (ps := ["found", "due"]) fun _ _ _ _ _ _ us hl => match us, hl with | [_, _], _ => rfl) ⟨rfl, rfl, rfl, by decide +kernel, rfl, by decide +kernel, by decide +kernel⟩ rfl fun cdv A outer s H E B ds hl => ?_
    match ds, hl with
    | [found1, due2], _ =>
      show JKE _ _ _ [.dat found1, .dat due2, .no, .no] _ _ (b__law_same (m__law_same n) found1 due2)
      exact (jke_if (JW.jt (jwe_or (jte_cmp op_isN od_isN (je_var 1) je_non rfl) (jwe_or1 (jte_cmp op_isN od_isN (je_var 0) je_non rfl)))) (jke_ret (je_and (je_cmp op_isN od_isN (je_var 1) je_non rfl) (je_one (je_cmp op_isN od_isN (je_var 0) je_non rfl)))) (jke_nil (jke_if (JW.jt (jwe_or (jte_tru (je_isi (je_var 1) T.z_isinstance T.z_bool rfl rfl)) (jwe_or1 (jte_tru (je_isi (je_var 0) T.z_isinstance T.z_bool rfl rfl))))) (jke_ret (je_and (je_isi (je_var 1) T.z_isinstance T.z_bool rfl rfl) (je_and (je_isi (je_var 0) T.z_isinstance T.z_bool rfl rfl) (je_one (je_cmp (or_eq B.u64) od_eq (je_var 0) (je_var 1) rfl))))) (jke_nil (jke_if (jte_tru (je_isi2 (je_var 1) T.z_isinstance T.z_int rfl rfl T.z_str rfl rfl)) (jke_if (jte_cmp (or_ne B.u64) od_ne (je_isi (je_var 0) T.z_isinstance T.z_int rfl rfl) (je_isi (je_var 1) T.z_isinstance T.z_int rfl rfl) rfl) (jke_ret je_bl) (jke_nil (jke_ret (je_and (je_isi2 (je_var 0) T.z_isinstance T.z_int rfl rfl T.z_str rfl rfl) (je_one (je_cmp (or_eq B.u64) od_eq (je_var 0) (je_var 1) rfl)))))) (jke_nil (jke_if (JW.jt (jwe_or (jte_cmp (or_ne B.u64) od_ne (je_isi (je_var 1) T.z_isinstance T.z_tuple rfl rfl) (je_isi (je_var 0) T.z_isinstance T.z_tuple rfl rfl) rfl) (jwe_or1 (jte_cmp (or_ne B.u64) od_ne (je_isi (je_var 1) T.z_isinstance T.z_list rfl rfl) (je_isi (je_var 0) T.z_isinstance T.z_list rfl rfl) rfl)))) (jke_ret je_bl) (jke_nil (jke_if (jte_cmp (or_ne B.u64) od_ne (JM.by (c1_eq _ _) (je_callB call_len_seq cd_len T.z_len rfl (jae_cons (je_var 0) jae_nil))) (JM.by (c1_eq _ _) (je_callB call_len_seq cd_len T.z_len rfl (jae_cons (je_var 1) jae_nil))) rfl) (jke_ret je_bl) (jke_nil (jke_ret (je_cmp (or_notIn B.u65) od_in je_bl (JLE.je (jle_lc2 (i1 := 2) (i2 := 3) (own := [("one", 2), ("other", 3)]) B (jie_zip T.z_zip (je_var 0) (je_var 1)) (blkOk_by (by rfl)) (fun _ _ _ _ _ => jg_tup B.hc (jgs_cons (jg_name B.nd) (jgs_cons (jg_name B.nd) jgs_nil))) (fun one3 other4 => okTE_nil) (fun one3 other4 => fun _ _ _ _ _ => (JM.by (c2_eq _ _ _) (je_kn ih (B.blk _ _ _ _ _) (jae_cons (je_var 2) (jae_cons (je_var 3) jae_nil))))))) rfl))))))))))))
theorem ok__law_same (T : Tp K mg) : Kn P w K mg base "_law_same" 40 (spR .dat 2 (F2 r__law_same)) := by
  unfold r__law_same
  exact ok__law_same_at T 40
theorem ok__law_one_of (T : Tp K mg) : Kn P w K mg base "_law_one_of" 3 (spM .dat 1 (G1 m__law_one_of)) := by
  refine kn_pen (N := ["pen", "some"]) (ps := ["pen", "some"]) T.F__law_one_of T.m__law_one_of (T.F__law_one_of.binds (ps := ["pen", "some"]) fun _ _ _ _ _ _ us hl => match us, hl with | [_, _], _ => rfl) ⟨rfl, rfl, rfl, by decide +kernel, rfl, by decide +kernel, by decide +kernel⟩ rfl fun cdv A outer s H E B pa ca cs ds hl q => ?_
  match ds, hl with
  | [some1], _ =>
    show JK _ _ _ [.raw (.ref pa), .dat some1] _ _ _ (m__law_one_of some1 q)
    unfold m__law_one_of
    exact (jk_ret (jm_ixM (je_var 1) (jm_pn 0 (Kn.mono (ok__law_take T)) B (jam_cons (JM.by (c1_eq _ _) (je_callB call_len_seq cd_len T.z_len rfl (jae_cons (je_var 1) jae_nil))) jam_nil))))
theorem ok__law_odd (T : Tp K mg) : Kn P w K mg base "_law_odd" 4 (spM .dat 0 (G0 m__law_odd)) := by
  refine kn_pen (N := ["pen"]) (ps := ["pen"]) T.F__law_odd T.m__law_odd (T.F__law_odd.binds (ps := ["pen"]) fun _ _ _ _ _ _ us hl => match us, hl with | [_], _ => rfl) ⟨rfl, rfl, rfl, by decide +kernel, rfl, by decide +kernel, by decide +kernel⟩ rfl fun cdv A outer s H E B pa ca cs ds hl q => ?_
  match ds, hl with
  | [], _ =>
    show JK _ _ _ [.raw (.ref pa)] _ _ _ (m__law_odd  q)
    unfold m__law_odd
    exact (jk_ret (jm_pn 0 (Kn.mono (ok__law_one_of T)) B (jam_cons (JLE.je (jle_lst (jae_cons je_non (jae_cons je_bl (jae_cons je_bl (jae_cons je_int (jae_cons je_int (jae_cons (je_neg je_int) (jae_cons je_str (jae_cons je_str (jae_cons (je_tup jae_nil) (jae_cons (JLE.je (jle_lst jae_nil)) (jae_cons je_dic (jae_cons (je_tup (jae_cons je_int jae_nil)) (jae_cons (je_tup (jae_cons je_int (jae_cons je_int jae_nil))) (jae_cons (JLE.je (jle_lst (jae_cons (je_tup jae_nil) jae_nil))) (jae_cons (je_tup (jae_cons (je_tup jae_nil) jae_nil)) (jae_cons je_int (jae_cons (je_op op_pow od_pow je_int je_int) jae_nil))))))))))))))))))) jam_nil)))
theorem ok__law_bent_at (T : Tp K mg) : ∀ n : Nat, Kn P w K mg base "_law_bent" (4 + n) (spM .dat 1 (G1 (m__law_bent n)))
  | 0 => kn_noneP T.F__law_bent T.m__law_bent (T.F__law_bent.binds (ps := ["pen", "value"]) fun _ _ _ _ _ _ us hl => match us, hl with | [_, _], _ => rfl) fun ds q m => by
    unfold G1
    split <;> exact fun z => z
  | n + 1 => by
    have ih := ok__law_bent_at T n
    refine kn_pen (k := 4 + n) (N := ["pen", "value", "found", "way", "k"]) (ps := ["pen", "value"]) T.F__law_bent T.m__law_bent (T.F__law_bent.binds (ps := ["pen", "value"]) fun _ _ _ _ _ _ us hl => match us, hl with | [_, _], _ => rfl) ⟨rfl, rfl, rfl, by decide +kernel, rfl, by decide +kernel, by decide +kernel⟩ rfl fun cdv A outer s H E B pa ca cs ds hl q => ?_
    match ds, hl with
    | [value1], _ =>
      show JK _ _ _ [.raw (.ref pa), .dat value1, .no, .no, .no] _ _ _ (b__law_bent (m__law_bent n) value1 q)
      exact (jk_ifM (JW.jt (jw_andM (jte_tru (je_isi (je_var 1) T.z_isinstance T.z_int rfl rfl)) (jw_and1M (jt_cmpM op_gt od_gt (jm_pn 0 (Kn.mono (ok__law_take T)) B (jam_cons je_int jam_nil)) je_int rfl)))) (jk_ret (jm_pn 0 (Kn.mono (ok__law_one_of T)) B (jam_cons (JLE.je (jle_lst (jae_cons (je_op or_add od_add (je_var 1) je_int) (jae_cons (je_op op_sub od_sub (je_var 1) je_int) (jae_cons (je_if (jte_chain op_le (or_lt B.u0) od_le od_lt je_int (je_var 1) je_int) (je_cmp (or_eq B.u64) od_eq (je_var 1) je_int rfl) (je_neg (je_var 1))) (jae_cons (je_op op_mulW od_mul (je_var 1) je_int) jae_nil)))))) jam_nil))) (jk_nil (jk_ifM (JW.jt (jw_orM (jte_not (jte_tru (je_isi2 (je_var 1) T.z_isinstance T.z_tuple rfl rfl T.z_list rfl rfl))) (jw_orM (jte_cmp (or_eq B.u64) od_eq (JM.by (c1_eq _ _) (je_callB call_len_seq cd_len T.z_len rfl (jae_cons (je_var 1) jae_nil))) je_int rfl) (jw_or1M (jt_cmpM (or_eq B.u64) od_eq (jm_pn 0 (Kn.mono (ok__law_take T)) B (jam_cons je_int jam_nil)) je_int rfl))))) (jk_ret (jm_pn 0 (Kn.mono (ok__law_odd T)) B jam_nil)) (jk_nil (jk_par3 (i := 2) (j := 3) (o := 4) B (jc_own (JL.by (c1_eq _ _) (jle_callTy call_list_of cd_list T.z_list rfl (jae_cons (je_var 1) jae_nil))) (jc_dat (jm_pn 0 (Kn.mono (ok__law_take T)) B (jam_cons je_int jam_nil)) (jc_dat (jm_pn 0 (Kn.mono (ok__law_take T)) B (jam_cons (JM.by (c1_eq _ _) (je_callB call_len_seq cd_len T.z_len rfl (jae_cons (je_var 1) jae_nil))) jam_nil)) jc_nil))) (by decide) (by decide) (by decide) rfl rfl rfl rfl (fun c3 c5 c7 => (jk_onL (f := fun c => [.raw (.ref pa), .dat value1, c, c5, c7]) (fun found2 => (jk_onD (f := fun c => [.raw (.ref pa), .dat value1, .own found2, c, c7]) (fun way4 => (jk_onD (f := fun c => [.raw (.ref pa), .dat value1, .own found2, .dat way4, c]) (fun k6 => (jk_ifJM (env := fun (s8 : D) => [.raw (.ref pa), .dat value1, .dat s8, .dat way4, .dat k6]) (jte_cmp (or_lt B.u0) od_lt (je_var 3) je_int rfl) (fun kk9 => (jk_setIM 2 (jm_pn 0 (Kn.mono ih) B (jam_cons (jm_ixO 2 (je_var 4)) jam_nil)) (je_var 4) fun found10 => (jk_give 2 (jk_nil (wk_exM (PyData.list found10) (.same (.same (.same (.same (.same .nil)))))))))) (fun kk9 => (jk_give 2 (jk_st (i := 2) (st_set (je_ix (JLE.je (jle_lst (jae_cons (je_op or_add od_add (je_slice (je_var 2) jo_none (jo_some (je_var 4))) (je_slice (je_var 2) (jo_some (je_op or_add od_add (je_var 4) je_int)) jo_none)) (jae_cons (je_op or_add od_add (je_var 2) (je_slice (je_var 2) (jo_some (je_var 4)) (jo_some (je_op or_add od_add (je_var 4) je_int)))) (jae_cons (je_rev (je_var 2)) jae_nil))))) (je_op op_sub od_sub (je_var 3) je_int)) B.nd) fun found11 => (jk_nil (wk_exM found11 (.same (.same (.same (.same (.same .nil)))))))))) (fun s8 => (jk_ret (jm_ifM (jt_cmpM (or_eq B.u64) od_eq (je_isi (je_var 1) T.z_isinstance T.z_tuple rfl rfl) (jm_cmpM op_gt od_gt (jm_pn 0 (Kn.mono (ok__law_take T)) B (jam_cons je_int jam_nil)) je_int rfl) rfl) (JM.by (c1_eq _ _) (je_callTy call_tupF cd_tuple T.z_tuple rfl (jae_cons (je_var 2) jae_nil))) (je_var 2)))))))))))))))))
theorem ok__law_bent (T : Tp K mg) : Kn P w K mg base "_law_bent" 44 (spM .dat 1 (G1 r__law_bent)) := by
  unfold r__law_bent
  exact ok__law_bent_at T 40
theorem ok__law_is_whole (T : Tp K mg) : Kn P w K mg base "_law_is_whole" 1 (spR .dat 1 (F1 m__law_is_whole)) := by
  refine kn_dat (N := ["value"]) (ps := ["value"]) T.F__law_is_whole T.m__law_is_whole (T.F__law_is_whole.binds (ps := ["value"]) fun _ _ _ _ _ _ us hl => match us, hl with | [_], _ => rfl) ⟨rfl, rfl, rfl, by decide +kernel, rfl, by decide +kernel, by decide +kernel⟩ rfl fun cdv A outer s H E B ds hl => ?_
  match ds, hl with
  | [value1], _ =>
    show JKE _ _ _ [.dat value1] _ _ (m__law_is_whole value1)
    unfold m__law_is_whole
    exact (jke_ret (je_and (je_isi (je_var 0) T.z_isinstance T.z_int rfl rfl) (je_one (je_not (je_isi (je_var 0) T.z_isinstance T.z_bool rfl rfl)))))
theorem ok__law_draw_order (T : Tp K mg) : Kn P w K mg base "_law_draw_order" 3 (spM .dat 1 (G1 m__law_draw_order)) := by
  refine kn_pen (N := ["pen", "n", "turn", "left", "found"]) (ps := ["pen", "n"]) T.F__law_draw_order T.m__law_draw_order (T.F__law_draw_order.binds (ps := ["pen", "n"]) fun _ _ _ _ _ _ us hl => match us, hl with | [_, _], _ => rfl) ⟨rfl, rfl, rfl, by decide +kernel, rfl, by decide +kernel, by decide +kernel⟩ rfl fun cdv A outer s H E B pa ca cs ds hl q => ?_
  match ds, hl with
  | [n1], _ =>
    show JK _ _ _ [.raw (.ref pa), .dat n1, .no, .no, .no] _ _ _ (m__law_draw_order n1 q)
    unfold m__law_draw_order
    exact (jk_par (i := 3) (j := 4) B (jc_own (jle_rg1 B T.z_list T.z_range (je_var 1)) (jc_own (jle_lst jae_nil) jc_nil)) (by decide) rfl rfl rfl (fun c3 c5 => (jk_onL (f := fun c => [.raw (.ref pa), .dat n1, .no, c, c5]) (fun left2 => (jk_onL (f := fun c => [.raw (.ref pa), .dat n1, .no, .own left2, c]) (fun found4 => (jk_for1 (i := 2) (env := fun (s6 : List D × List D) => [.raw (.ref pa), .dat n1, .no, .own s6.1, .own s6.2]) (s0 := (left2, found4)) B (jie_range1 T.z_range (je_var 1)) (jg_name B.nd) (.same (.same (.no (.same (.same .nil))))) (fun s6 turn10 kk7 => (jk_appPop 4 3 (JM.lendM' (jm_pn 0 (Kn.mono (ok__law_take T)) B (jam_cons (JM.by (c1_eq _ _) (je_callB call_len_seq cd_len T.z_len rfl (jae_cons (je_var 3) jae_nil))) jam_nil))) (fun found11 left12 => (jk_nil (wk_exM (left12, found11) (.same (.same (.no (.same (.same .nil)))))))))) (fun s9 => (jk_give 4 (jk_ret (JM.by (c1_eq _ _) (je_callTy call_tupF cd_tuple T.z_tuple rfl (jae_cons (je_var 4) jae_nil)))))))))))))
theorem ok__law_web (T : Tp K mg) : Kn P w K mg base "_law_web" 1 (spR .dat 2 (F2 m__law_web)) := by
  refine kn_dat (N := ["n", "pairs", "a", "b"]) (ps := ["n", "pairs"]) T.F__law_web T.m__law_web (T.F__law_web.binds (ps := ["n", "pairs"]) fun _ _ _ _ _ _ us hl => match us, hl with | [_, _], _ => rfl) ⟨rfl, rfl, rfl, by decide +kernel, rfl, by decide +kernel, by decide +kernel⟩ rfl fun cdv A outer s H E B ds hl => ?_
  match ds, hl with
  | [n1, pairs2], _ =>
    show JKE _ _ _ [.dat n1, .dat pairs2, .no, .no] _ _ (m__law_web n1 pairs2)
    unfold m__law_web
    exact (jke_ret (je_tup (jae_cons (je_var 0) (jae_cons (JM.by (c1_eq _ _) (je_callTy call_tupF cd_tuple T.z_tuple rfl (jae_cons (JLE.je (JL.by (c1_eq _ _) (jle_two (cr_setAny B) (cr_sortSet B) cd_ss T.z_set rfl T.z_sorted rfl (jae_cons (JLE.je (jle_lc2 (i1 := 2) (i2 := 3) (own := [("a", 2), ("b", 3)]) B (jie_seq (je_var 1)) (blkOk_by (by rfl)) (fun _ _ _ _ _ => jg_tup B.hc (jgs_cons (jg_name B.nd) (jgs_cons (jg_name B.nd) jgs_nil))) (fun a3 b4 => okTE_one fun _ _ _ _ _ => (jte_cmp (or_ne B.u64) od_ne (je_var 2) (je_var 3) rfl)) (fun a3 b4 => fun _ _ _ _ _ => (je_tup (jae_cons (JM.by (c2_eq _ _ _) (je_callB (call_min2 B.hc) cd_min2 T.z_min rfl (jae_cons (je_var 2) (jae_cons (je_var 3) jae_nil)))) (jae_cons (JM.by (c2_eq _ _ _) (je_callB (call_max2 B.hc) cd_max2 T.z_max rfl (jae_cons (je_var 2) (jae_cons (je_var 3) jae_nil)))) jae_nil)))))) jae_nil)))) jae_nil))) jae_nil))))
theorem ok__law_draw_web (T : Tp K mg) : Kn P w K mg base "_law_draw_web" 4 (spM .dat 2 (G2 m__law_draw_web)) := by
  refine kn_pen (N := ["pen", "low", "high", "k", "more", "n", "way", "order", "pairs", "half", "rings", "ring", "other"]) (ps := ["pen", "low", "high"]) T.F__law_draw_web T.m__law_draw_web (T.F__law_draw_web.binds (ps := ["pen", "low", "high"]) fun _ _ _ _ _ _ us hl => match us, hl with | [_, _, _], _ => rfl) ⟨rfl, rfl, rfl, by decide +kernel, rfl, by decide +kernel, by decide +kernel⟩ rfl fun cdv A outer s H E B pa ca cs ds hl q => ?_
  match ds, hl with
  | [low1, high2], _ =>
    show JK _ _ _ [.raw (.ref pa), .dat low1, .dat high2, .no, .no, .no, .no, .no, .no, .no, .no, .no, .no] _ _ _ (m__law_draw_web low1 high2 q)
    unfold m__law_draw_web
    exact (jk_parC (i := 5) (j := 6) B (jc_dat (jm_opM or_add od_add (je_var 1) (jm_pn 0 (Kn.mono (ok__law_take T)) B (jam_cons (je_op or_add od_add (je_op op_sub od_sub (je_var 2) (je_var 1)) je_int) jam_nil))) (jc_dat (jm_pn 0 (Kn.mono (ok__law_take T)) B (jam_cons je_int jam_nil)) jc_nil)) (fun c4 c6 => (jk_onD (f := fun c => [.raw (.ref pa), .dat low1, .dat high2, .no, .no, c, c6, .no, .no, .no, .no, .no, .no]) (fun n3 => (jk_onD (f := fun c => [.raw (.ref pa), .dat low1, .dat high2, .no, .no, .dat n3, c, .no, .no, .no, .no, .no, .no]) (fun way5 => (jk_parC (i := 7) (j := 8) B (jc_dat (jm_pn 0 (Kn.mono (ok__law_draw_order T)) B (jam_cons (je_var 5) jam_nil)) (jc_own (jle_lst jae_nil) jc_nil)) (fun c8 c10 => (jk_onD (f := fun c => [.raw (.ref pa), .dat low1, .dat high2, .no, .no, .dat n3, .dat way5, c, c10, .no, .no, .no, .no]) (fun order7 => (jk_onL (f := fun c => [.raw (.ref pa), .dat low1, .dat high2, .no, .no, .dat n3, .dat way5, .dat order7, c, .no, .no, .no, .no]) (fun pairs9 => (jk_ifM (jte_cmp (or_eq B.u64) od_eq (je_var 6) je_int rfl) (jk_st (i := 8) (st_shr (st_lc1M (i := 3) (own := [("k", 3)]) B (ji_range1M T.z_range (jm_pn 0 (Kn.mono (ok__law_take T)) B (jam_cons (je_op or_add od_add (je_var 5) je_int) jam_nil))) (blkOk_by (by rfl)) (fun _ _ _ _ _ => jg_name B.nd) (fun k12 => okT_nilM) (fun k12 => fun _ _ _ _ _ => (jm_tupM (jam_cons (jm_pn 0 (Kn.mono (ok__law_take T)) (B.blk _ _ _ _ _) (jam_cons (je_var 5) jam_nil)) (jam_cons (jm_pn 0 (Kn.mono (ok__law_take T)) (B.blk _ _ _ _ _) (jam_cons (je_var 5) jam_nil)) jam_nil)))))) fun pairs11 => (jk_ret (JM.by (c2_eq _ _ _) (je_kn (Kn.mono (ok__law_web T)) B (jae_cons (je_var 5) (jae_cons (je_var 8) jae_nil)))))) (jk_nil (jk_ifM (jte_cmp (or_in B.u65) od_in (je_var 6) (JLE.je (jle_lst (jae_cons je_int (jae_cons je_int jae_nil)))) rfl) (jk_st (i := 8) (st_set (je_op or_add od_add (JLE.je (jle_lc1 (i := 3) (own := [("k", 3)]) B (jie_range2 T.z_range (je_op op_sub od_sub je_int (je_var 6)) (je_var 5)) (blkOk_by (by rfl)) (fun _ _ _ _ _ => jg_name B.nd) (fun k14 => okTE_nil) (fun k14 => fun _ _ _ _ _ => (je_tup (jae_cons (je_ix (je_var 7) (je_op op_sub od_sub (je_var 3) je_int)) (jae_cons (je_ix (je_var 7) (je_var 3)) jae_nil)))))) (JLE.je (jle_lst (jae_cons (je_tup (jae_cons (je_ix (je_var 7) je_int) (jae_cons (je_ix (je_var 7) (je_op op_mulW od_mul je_int (JM.by (c1_eq _ _) (je_callTy call_int1 cd_int T.z_int rfl (jae_cons (je_cmp op_gt od_gt (je_var 5) je_int rfl) jae_nil))))) jae_nil))) jae_nil)))) B.nd) fun pairs13 => (jk_ret (JM.by (c2_eq _ _ _) (je_kn (Kn.mono (ok__law_web T)) B (jae_cons (je_var 5) (jae_cons (je_op or_add od_add (je_var 8) (JLE.je (jle_op op_rep od_repL (JLE.je (jle_lst (jae_cons (je_tup (jae_cons (je_ix (je_var 7) je_int) (jae_cons (je_ix (je_var 7) (je_op op_sub od_sub (je_var 5) je_int)) jae_nil))) jae_nil))) (je_op op_sub od_sub (je_var 6) je_int)))) jae_nil)))))) (jk_nil (jk_ifM (jte_cmp (or_eq B.u64) od_eq (je_var 6) je_int rfl) (jk_ret (JM.by (c2_eq _ _ _) (je_kn (Kn.mono (ok__law_web T)) B (jae_cons (je_var 5) (jae_cons (JLE.je (jle_lc1 (i := 12) (own := [("other", 12)]) B (jie_seq (je_var 7)) (blkOk_by (by rfl)) (fun _ _ _ _ _ => jg_name B.nd) (fun other15 => okTE_nil) (fun other15 => fun _ _ _ _ _ => (je_tup (jae_cons (je_ix (je_var 7) je_int) (jae_cons (je_var 12) jae_nil)))))) jae_nil))))) (jk_nil (jk_ifM (JW.jt (jwe_and (jte_cmp (or_eq B.u64) od_eq (je_var 6) je_int rfl) (jwe_and1 (jte_cmp op_gt od_gt (je_var 5) je_int rfl)))) (jk_st (i := 9) (st_set (jm_opM or_add od_add je_int (jm_pn 0 (Kn.mono (ok__law_take T)) B (jam_cons (je_op op_sub od_sub (je_var 5) je_int) jam_nil))) B.nd) fun half16 => (jk_st (i := 10) (st_shr (st_setL (jle_lst (jae_cons (je_slice (je_var 7) jo_none (jo_some (je_op or_add od_add (je_var 9) je_int))) (jae_cons (je_slice (je_var 7) (jo_some (je_var 9)) jo_none) jae_nil))) B.nd)) fun rings17 => (jk_give 8 (jk_for1 (i := 11) (env := fun (s18 : D) => [.raw (.ref pa), .dat low1, .dat high2, .no, .no, .dat n3, .dat way5, .dat order7, .dat s18, .dat half16, .dat rings17, .no, .no]) (s0 := (PyData.list pairs9)) B (jie_seq (je_var 10)) (jg_name B.nd) (.same (.same (.same (.no (.no (.same (.same (.same (.same (.same (.same (.no (.no .nil))))))))))))) (fun s18 ring22 kk19 => (jk_st (i := 8) (st_set (je_op or_add od_add (je_var 8) (JLE.je (jle_lc1 (i := 3) (own := [("k", 3)]) B (jie_range1 T.z_range (JM.by (c1_eq _ _) (je_callB call_len_seq cd_len T.z_len rfl (jae_cons (je_var 11) jae_nil)))) (blkOk_by (by rfl)) (fun _ _ _ _ _ => jg_name B.nd) (fun k24 => okTE_nil) (fun k24 => fun _ _ _ _ _ => (je_tup (jae_cons (je_ix (je_var 11) (je_op op_sub od_sub (je_var 3) je_int)) (jae_cons (je_ix (je_var 11) (je_var 3)) jae_nil))))))) B.nd) fun pairs23 => (jk_nil (wk_exM pairs23 (.same (.same (.same (.no (.no (.same (.same (.same (.same (.same (.same (.no (.no .nil))))))))))))))))) (fun s21 => (jk_ret (JM.by (c2_eq _ _ _) (je_kn (Kn.mono (ok__law_web T)) B (jae_cons (je_var 5) (jae_cons (je_var 8) jae_nil)))))))))) (jk_nil (jk_for1 (i := 3) (env := fun (s25 : List D) => [.raw (.ref pa), .dat low1, .dat high2, .no, .no, .dat n3, .dat way5, .dat order7, .own s25, .no, .no, .no, .no]) (s0 := pairs9) B (jie_range2 T.z_range je_int (je_var 5)) (jg_name B.nd) (.same (.same (.same (.no (.no (.same (.same (.same (.same (.no (.no (.no (.no .nil))))))))))))) (fun s25 k29 kk26 => (jk_app 8 (jm_tupM (jam_cons (jm_ixM (je_var 7) (jm_pn 0 (Kn.mono (ok__law_take T)) B (jam_cons (je_var 3) jam_nil))) (jam_cons (je_ix (je_var 7) (je_var 3)) jam_nil))) fun d31 => (jk_nil (wk_exM (s25 ++ [d31]) (.same (.same (.same (.no (.no (.same (.same (.same (.same (.no (.no (.no (.no .nil))))))))))))))))) (fun s28 => (jk_st (i := 4) (st_set (je_ix (JLE.je (jle_lst (jae_cons je_int (jae_cons je_int (jae_cons je_int (jae_cons je_int (jae_cons je_int (jae_cons je_int (jae_cons je_int (jae_cons (je_var 5) (jae_cons (je_op op_mulW od_mul je_int (je_var 5)) jae_nil))))))))))) (je_var 6)) B.nd) fun more32 => (jk_give 8 (jk_ret (jm_knM (Kn.mono (ok__law_web T)) B (jam_cons (je_var 5) (jam_cons (jm_opM or_add od_add (je_var 8) (JL.jmM (jl_lc1M (i := 3) (own := [("k", 3)]) B (jie_range1 T.z_range (je_var 4)) (blkOk_by (by rfl)) (fun _ _ _ _ _ => jg_name B.nd) (fun k33 => okT_nilM) (fun k33 => fun _ _ _ _ _ => (jm_tupM (jam_cons (jm_pn 0 (Kn.mono (ok__law_take T)) (B.blk _ _ _ _ _) (jam_cons (je_var 5) jam_nil)) (jam_cons (jm_pn 0 (Kn.mono (ok__law_take T)) (B.blk _ _ _ _ _) (jam_cons (je_var 5) jam_nil)) jam_nil))))))) jam_nil))))))))))))))))))))))))))))
theorem ok__law_near (T : Tp K mg) : Kn P w K mg base "_law_near" 1 (spR .dat 2 (F2 m__law_near)) := by
  refine kn_dat (N := ["web", "place", "found", "a", "b"]) (ps := ["web", "place"]) T.F__law_near T.m__law_near (T.F__law_near.binds (ps := ["web", "place"]) fun _ _ _ _ _ _ us hl => match us, hl with | [_, _], _ => rfl) ⟨rfl, rfl, rfl, by decide +kernel, rfl, by decide +kernel, by decide +kernel⟩ rfl fun cdv A outer s H E B ds hl => ?_
  match ds, hl with
  | [web1, place2], _ =>
    show JKE _ _ _ [.dat web1, .dat place2, .no, .no, .no] _ _ (m__law_near web1 place2)
    unfold m__law_near
    exact (jke_st (i := 2) (ste_shr (st_setL (jle_lst jae_nil) B.nd)) fun found3 => (jke_for2 (i := 3) (j := 4) (env := fun (s4 : D) => [.dat web1, .dat place2, .dat s4, .no, .no]) (s0 := found3) B (jie_seq (je_ix (je_var 0) je_int)) (jg_tup B.hc (jgs_cons (jg_name B.nd) (jgs_cons (jg_name B.nd) jgs_nil))) (.same (.same (.same (.no (.no .nil))))) (fun s4 a8 b9 kk5 => (jke_st (i := 2) (st_set (je_op or_add od_add (je_op or_add od_add (je_var 2) (JLE.je (jle_if (jte_cmp (or_eq B.u64) od_eq (je_var 3) (je_var 1) rfl) (jle_lst (jae_cons (je_var 4) jae_nil)) (jle_lst jae_nil)))) (JLE.je (jle_if (jte_cmp (or_eq B.u64) od_eq (je_var 4) (je_var 1) rfl) (jle_lst (jae_cons (je_var 3) jae_nil)) (jle_lst jae_nil)))) B.nd) fun found10 => (jke_nil (wk_ex found10 (.same (.same (.same (.no (.no .nil))))))))) (fun s7 => (jke_ret (JM.by (c1_eq _ _) (je_callTy call_tupF cd_tuple T.z_tuple rfl (jae_cons (JLE.je (JL.by (c1_eq _ _) (jle_callB (cr_sort B.u64) cd_sort T.z_sorted rfl (jae_cons (je_var 2) jae_nil)))) jae_nil)))))))
theorem ok__law_piece (T : Tp K mg) : Kn P w K mg base "_law_piece" 2 (spR .dat 3 (F3 m__law_piece)) := by
  refine kn_dat (N := ["web", "lot", "place", "found", "turn", "more", "one", "other"]) (ps := ["web", "lot", "place"]) T.F__law_piece T.m__law_piece (T.F__law_piece.binds (ps := ["web", "lot", "place"]) fun _ _ _ _ _ _ us hl => match us, hl with | [_, _, _], _ => rfl) ⟨rfl, rfl, rfl, by decide +kernel, rfl, by decide +kernel, by decide +kernel⟩ rfl fun cdv A outer s H E B ds hl => ?_
  match ds, hl with
  | [web1, lot2, place3], _ =>
    show JKE _ _ _ [.dat web1, .dat lot2, .dat place3, .no, .no, .no, .no, .no] _ _ (m__law_piece web1 lot2 place3)
    unfold m__law_piece
    exact (jke_st (i := 3) (ste_shr (st_setL (jle_lst (jae_cons (je_var 2) jae_nil)) B.nd)) fun found4 => (jke_for1 (i := 4) (env := fun (s5 : D) => [.dat web1, .dat lot2, .dat place3, .dat s5, .no, .no, .no, .no]) (s0 := found4) B (jie_range1 T.z_range (JM.by (c1_eq _ _) (je_callB call_len_seq cd_len T.z_len rfl (jae_cons (je_var 1) jae_nil)))) (jg_name B.nd) (.same (.same (.same (.same (.no (.no (.no (.no .nil)))))))) (fun s5 turn9 kk6 => (jke_st (i := 5) (ste_shr (st_setL (JL.by (c1_eq _ _) (jle_callTy call_list_of cd_list T.z_list rfl (jae_cons (je_var 3) jae_nil))) B.nd)) fun more10 => (jke_for1 (i := 6) (env := fun (s11 : D) => [.dat web1, .dat lot2, .dat place3, .dat s5, .dat turn9, .dat s11, .no, .no]) (s0 := more10) B (jie_seq (je_var 3)) (jg_name B.nd) (.same (.same (.same (.same (.same (.same (.no (.no .nil)))))))) (fun s11 one15 kk12 => (jke_st (i := 5) (st_set (je_op or_add od_add (je_var 5) (JLE.je (jle_lc1 (i := 7) (own := [("other", 7)]) B (jie_seq (JM.by (c2_eq _ _ _) (je_kn (Kn.mono (ok__law_near T)) B (jae_cons (je_var 0) (jae_cons (je_var 6) jae_nil))))) (blkOk_by (by rfl)) (fun _ _ _ _ _ => jg_name B.nd) (fun other17 => okTE_one fun _ _ _ _ _ => (jte_cmp (or_in B.u65) od_in (je_var 7) (je_var 1) rfl)) (fun other17 => fun _ _ _ _ _ => (je_var 7))))) B.nd) fun more16 => (jke_nil (wk_ex more16 (.same (.same (.same (.same (.same (.same (.no (.no .nil)))))))))))) (fun s14 => (jke_st (i := 3) (ste_shr (st_setL (JL.by (c1_eq _ _) (jle_two (cr_setAny B) (cr_sortSet B) cd_ss T.z_set rfl T.z_sorted rfl (jae_cons (je_var 5) jae_nil))) B.nd)) fun found18 => (jke_nil (wk_ex found18 (.same (.same (.same (.same (.no (.no (.no (.no .nil))))))))))))))) (fun s8 => (jke_ret (JM.by (c1_eq _ _) (je_callTy call_tupF cd_tuple T.z_tuple rfl (jae_cons (je_var 3) jae_nil)))))))
theorem ok__law_pieces (T : Tp K mg) : Kn P w K mg base "_law_pieces" 3 (spR .dat 2 (F2 m__law_pieces)) := by
  refine kn_dat (N := ["web", "lot", "place"]) (ps := ["web", "lot"]) T.F__law_pieces T.m__law_pieces (T.F__law_pieces.binds (ps := ["web", "lot"]) fun _ _ _ _ _ _ us hl => match us, hl with | [_, _], _ => rfl) ⟨rfl, rfl, rfl, by decide +kernel, rfl, by decide +kernel, by decide +kernel⟩ rfl fun cdv A outer s H E B ds hl => ?_
  match ds, hl with
  | [web1, lot2], _ =>
    show JKE _ _ _ [.dat web1, .dat lot2, .no] _ _ (m__law_pieces web1 lot2)
    unfold m__law_pieces
    exact (jke_ret (JM.by (c1_eq _ _) (je_callTy call_tupF cd_tuple T.z_tuple rfl (jae_cons (JLE.je (JL.by (c1_eq _ _) (jle_two (cr_setAny B) (cr_sortSet B) cd_ss T.z_set rfl T.z_sorted rfl (jae_cons (JLE.je (jle_lc1 (i := 2) (own := [("place", 2)]) B (jie_seq (je_var 1)) (blkOk_by (by rfl)) (fun _ _ _ _ _ => jg_name B.nd) (fun place3 => okTE_nil) (fun place3 => fun _ _ _ _ _ => (JM.by (c3_eq _ _ _ _) (je_kn (Kn.mono (ok__law_piece T)) (B.blk _ _ _ _ _) (jae_cons (je_var 0) (jae_cons (je_var 1) (jae_cons (je_var 2) jae_nil)))))))) jae_nil)))) jae_nil))))
theorem ok__law_hangs (T : Tp K mg) : Kn P w K mg base "_law_hangs" 4 (spR .dat 2 (F2 m__law_hangs)) := by
  refine kn_dat (N := ["web", "lot"]) (ps := ["web", "lot"]) T.F__law_hangs T.m__law_hangs (T.F__law_hangs.binds (ps := ["web", "lot"]) fun _ _ _ _ _ _ us hl => match us, hl with | [_, _], _ => rfl) ⟨rfl, rfl, rfl, by decide +kernel, rfl, by decide +kernel, by decide +kernel⟩ rfl fun cdv A outer s H E B ds hl => ?_
  match ds, hl with
  | [web1, lot2], _ =>
    show JKE _ _ _ [.dat web1, .dat lot2] _ _ (m__law_hangs web1 lot2)
    unfold m__law_hangs
    exact (jke_ret (je_cmp (or_eq B.u64) od_eq (JM.by (c1_eq _ _) (je_callB call_len_seq cd_len T.z_len rfl (jae_cons (JM.by (c2_eq _ _ _) (je_kn (Kn.mono (ok__law_pieces T)) B (jae_cons (je_var 0) (jae_cons (je_var 1) jae_nil)))) jae_nil))) je_int rfl))
theorem ok__law_draw_roots (T : Tp K mg) : Kn P w K mg base "_law_draw_roots" 4 (spM .dat 2 (G2 m__law_draw_roots)) := by
  refine kn_pen (N := ["pen", "n", "k"]) (ps := ["pen", "n", "k"]) T.F__law_draw_roots T.m__law_draw_roots (T.F__law_draw_roots.binds (ps := ["pen", "n", "k"]) fun _ _ _ _ _ _ us hl => match us, hl with | [_, _, _], _ => rfl) ⟨rfl, rfl, rfl, by decide +kernel, rfl, by decide +kernel, by decide +kernel⟩ rfl fun cdv A outer s H E B pa ca cs ds hl q => ?_
  match ds, hl with
  | [n1, k2], _ =>
    show JK _ _ _ [.raw (.ref pa), .dat n1, .dat k2] _ _ _ (m__law_draw_roots n1 k2 q)
    unfold m__law_draw_roots
    exact (jk_ret (jm_sliceM (jm_pn 0 (Kn.mono (ok__law_draw_order T)) B (jam_cons (je_var 1) jam_nil)) jo_none (jo_some (je_var 2))))
theorem ok__law_draw_sizes (T : Tp K mg) : Kn P w K mg base "_law_draw_sizes" 3 (spM .dat 2 (G2 m__law_draw_sizes)) := by
  refine kn_pen (N := ["pen", "n", "k", "found", "turn", "i"]) (ps := ["pen", "n", "k"]) T.F__law_draw_sizes T.m__law_draw_sizes (T.F__law_draw_sizes.binds (ps := ["pen", "n", "k"]) fun _ _ _ _ _ _ us hl => match us, hl with | [_, _, _], _ => rfl) ⟨rfl, rfl, rfl, by decide +kernel, rfl, by decide +kernel, by decide +kernel⟩ rfl fun cdv A outer s H E B pa ca cs ds hl q => ?_
  match ds, hl with
  | [n1, k2], _ =>
    show JK _ _ _ [.raw (.ref pa), .dat n1, .dat k2, .no, .no, .no] _ _ _ (m__law_draw_sizes n1 k2 q)
    unfold m__law_draw_sizes
    exact (jk_stL (i := 3) (st_setL (jle_op op_rep od_repL (JLE.je (jle_lst (jae_cons je_int jae_nil))) (je_var 2)) B.nd) fun found3 => (jk_for1 (i := 4) (env := fun (s4 : List D) => [.raw (.ref pa), .dat n1, .dat k2, .own s4, .no, .no]) (s0 := found3) B (jie_range1 T.z_range (je_op op_sub od_sub (je_var 1) (je_var 2))) (jg_name B.nd) (.same (.same (.same (.same (.no (.no .nil)))))) (fun s4 turn8 kk5 => (jk_st (i := 5) (st_set (jm_pn 0 (Kn.mono (ok__law_take T)) B (jam_cons (je_var 2) jam_nil)) B.nd) fun i9 => (jk_setI 3 (JE.lend (je_op or_add od_add (je_ix (je_var 3) (je_var 5)) je_int)) (je_var 5) fun found10 => (jk_nil (wk_exM found10 (.same (.same (.same (.same (.no (.no .nil))))))))))) (fun s7 => (jk_give 3 (jk_ret (JM.by (c1_eq _ _) (je_callTy call_tupF cd_tuple T.z_tuple rfl (jae_cons (je_var 3) jae_nil))))))))
theorem ok__law_draw_deal (T : Tp K mg) : Kn P w K mg base "_law_draw_deal" 5 (spM .dat 2 (G2 m__law_draw_deal)) := by
  refine kn_pen (N := ["pen", "web", "most", "k"]) (ps := ["pen", "web", "most"]) T.F__law_draw_deal T.m__law_draw_deal (T.F__law_draw_deal.binds (ps := ["pen", "web", "most"]) fun _ _ _ _ _ _ us hl => match us, hl with | [_, _, _], _ => rfl) ⟨rfl, rfl, rfl, by decide +kernel, rfl, by decide +kernel, by decide +kernel⟩ rfl fun cdv A outer s H E B pa ca cs ds hl q => ?_
  match ds, hl with
  | [web1, most2], _ =>
    show JK _ _ _ [.raw (.ref pa), .dat web1, .dat most2, .no] _ _ _ (m__law_draw_deal web1 most2 q)
    unfold m__law_draw_deal
    exact (jk_st (i := 3) (st_set (jm_opM or_add od_add je_int (jm_pn 0 (Kn.mono (ok__law_take T)) B (jam_cons (JM.by (c2_eq _ _ _) (je_callB (call_min2 B.hc) cd_min2 T.z_min rfl (jae_cons (je_var 2) (jae_cons (je_ix (je_var 1) je_int) jae_nil)))) jam_nil))) B.nd) fun k3 => (jk_ret (jm_tupM (jam_cons (jm_pn 0 (Kn.mono (ok__law_draw_roots T)) B (jam_cons (je_ix (je_var 1) je_int) (jam_cons (je_var 3) jam_nil))) (jam_cons (jm_pn 0 (Kn.mono (ok__law_draw_sizes T)) B (jam_cons (je_ix (je_var 1) je_int) (jam_cons (je_var 3) jam_nil))) jam_nil)))))
theorem ok__law_part (T : Tp K mg) : Kn P w K mg base "_law_part" 1 (spR .dat 2 (F2 m__law_part)) := by
  refine kn_dat (N := ["dealing", "i", "place"]) (ps := ["dealing", "i"]) T.F__law_part T.m__law_part (T.F__law_part.binds (ps := ["dealing", "i"]) fun _ _ _ _ _ _ us hl => match us, hl with | [_, _], _ => rfl) ⟨rfl, rfl, rfl, by decide +kernel, rfl, by decide +kernel, by decide +kernel⟩ rfl fun cdv A outer s H E B ds hl => ?_
  match ds, hl with
  | [dealing1, i2], _ =>
    show JKE _ _ _ [.dat dealing1, .dat i2, .no] _ _ (m__law_part dealing1 i2)
    unfold m__law_part
    exact (jke_ret (JM.by (c1_eq _ _) (je_callTy call_tupF cd_tuple T.z_tuple rfl (jae_cons (JLE.je (jle_lc1 (i := 2) (own := [("place", 2)]) B (jie_range1 T.z_range (JM.by (c1_eq _ _) (je_callB call_len_seq cd_len T.z_len rfl (jae_cons (je_var 0) jae_nil)))) (blkOk_by (by rfl)) (fun _ _ _ _ _ => jg_name B.nd) (fun place3 => okTE_one fun _ _ _ _ _ => (jte_cmp (or_eq B.u64) od_eq (je_ix (je_var 0) (je_var 2)) (je_var 1) rfl)) (fun place3 => fun _ _ _ _ _ => (je_var 2)))) jae_nil))))
theorem ok__law_is_dealing (T : Tp K mg) : Kn P w K mg base "_law_is_dealing" 2 (spR .dat 3 (F3 m__law_is_dealing)) := by
  refine kn_dat (N := ["n", "k", "value", "number"]) (ps := ["n", "k", "value"]) T.F__law_is_dealing T.m__law_is_dealing (T.F__law_is_dealing.binds (ps := ["n", "k", "value"]) fun _ _ _ _ _ _ us hl => match us, hl with | [_, _, _], _ => rfl) ⟨rfl, rfl, rfl, by decide +kernel, rfl, by decide +kernel, by decide +kernel⟩ rfl fun cdv A outer s H E B ds hl => ?_
  match ds, hl with
  | [n1, k2, value3], _ =>
    show JKE _ _ _ [.dat n1, .dat k2, .dat value3, .no] _ _ (m__law_is_dealing n1 k2 value3)
    unfold m__law_is_dealing
    exact (jke_if (JW.jt (jwe_or (jte_not (jte_tru (je_isi (je_var 2) T.z_isinstance T.z_tuple rfl rfl))) (jwe_or1 (jte_cmp (or_ne B.u64) od_ne (JM.by (c1_eq _ _) (je_callB call_len_seq cd_len T.z_len rfl (jae_cons (je_var 2) jae_nil))) (je_var 0) rfl)))) (jke_ret je_bl) (jke_nil (jke_ret (je_cmp (or_notIn B.u65) od_in je_bl (JLE.je (jle_lc1 (i := 3) (own := [("number", 3)]) B (jie_seq (je_var 2)) (blkOk_by (by rfl)) (fun _ _ _ _ _ => jg_name B.nd) (fun number4 => okTE_nil) (fun number4 => fun _ _ _ _ _ => (je_and (JM.by (c1_eq _ _) (je_kn (Kn.mono (ok__law_is_whole T)) (B.blk _ _ _ _ _) (jae_cons (je_var 3) jae_nil))) (je_one (je_chain op_le (or_lt B.u0) od_le od_lt je_int (je_var 3) (je_var 1))))))) rfl))))
theorem ok__law_is_parts (T : Tp K mg) : Kn P w K mg base "_law_is_parts" 5 (spR .dat 3 (F3 m__law_is_parts)) := by
  refine kn_dat (N := ["web", "deal", "value", "i", "roots", "sizes", "lot"]) (ps := ["web", "deal", "value"]) T.F__law_is_parts T.m__law_is_parts (T.F__law_is_parts.binds (ps := ["web", "deal", "value"]) fun _ _ _ _ _ _ us hl => match us, hl with | [_, _, _], _ => rfl) ⟨rfl, rfl, rfl, by decide +kernel, rfl, by decide +kernel, by decide +kernel⟩ rfl fun cdv A outer s H E B ds hl => ?_
  match ds, hl with
  | [web1, deal2, value3], _ =>
    show JKE _ _ _ [.dat web1, .dat deal2, .dat value3, .no, .no, .no, .no] _ _ (m__law_is_parts web1 deal2 value3)
    unfold m__law_is_parts
    exact (jke_un2 (i := 4) (j := 5) (je_var 1) (jg_tup B.hc (jgs_cons (jg_name B.nd) (jgs_cons (jg_name B.nd) jgs_nil))) fun roots4 sizes5 => (jke_if (jte_not (jte_tru (JM.by (c3_eq _ _ _ _) (je_kn (Kn.mono (ok__law_is_dealing T)) B (jae_cons (je_ix (je_var 0) je_int) (jae_cons (JM.by (c1_eq _ _) (je_callB call_len_seq cd_len T.z_len rfl (jae_cons (je_var 4) jae_nil))) (jae_cons (je_var 2) jae_nil))))))) (jke_ret je_bl) (jke_nil (jke_for1 (i := 3) (env := fun (s6 : Unit) => [.dat web1, .dat deal2, .dat value3, .no, .dat roots4, .dat sizes5, .no]) (s0 := ()) B (jie_range1 T.z_range (JM.by (c1_eq _ _) (je_callB call_len_seq cd_len T.z_len rfl (jae_cons (je_var 4) jae_nil)))) (jg_name B.nd) (.same (.same (.same (.no (.same (.same (.no .nil))))))) (fun s6 i10 kk7 => (jke_st (i := 6) (st_set (JM.by (c2_eq _ _ _) (je_kn (Kn.mono (ok__law_part T)) B (jae_cons (je_var 2) (jae_cons (je_var 3) jae_nil)))) B.nd) fun lot11 => (jke_if (JW.jt (jwe_or (jte_cmp (or_ne B.u64) od_ne (je_ix (je_var 2) (je_ix (je_var 4) (je_var 3))) (je_var 3) rfl) (jwe_or (jte_cmp (or_ne B.u64) od_ne (JM.by (c1_eq _ _) (je_callB call_len_seq cd_len T.z_len rfl (jae_cons (je_var 6) jae_nil))) (je_ix (je_var 5) (je_var 3)) rfl) (jwe_or1 (jte_not (jte_tru (JM.by (c2_eq _ _ _) (je_kn (Kn.mono (ok__law_hangs T)) B (jae_cons (je_var 0) (jae_cons (je_var 6) jae_nil)))))))))) (jke_ret je_bl) (jke_nil (jke_nil (wk_ex () (.same (.same (.same (.no (.same (.same (.no .nil))))))))))))) (fun s9 => (jke_ret je_bl))))))
theorem ok__law_dealings (T : Tp K mg) : Kn P w K mg base "_law_dealings" 1 (spR .dat 3 (F3 m__law_dealings)) := by
  refine kn_dat (N := ["n", "k", "roots", "found", "place", "parts", "later", "dealing", "i"]) (ps := ["n", "k", "roots"]) T.F__law_dealings T.m__law_dealings (T.F__law_dealings.binds (ps := ["n", "k", "roots"]) fun _ _ _ _ _ _ us hl => match us, hl with | [_, _, _], _ => rfl) ⟨rfl, rfl, rfl, by decide +kernel, rfl, by decide +kernel, by decide +kernel⟩ rfl fun cdv A outer s H E B ds hl => ?_
  match ds, hl with
  | [n1, k2, roots3], _ =>
    show JKE _ _ _ [.dat n1, .dat k2, .dat roots3, .no, .no, .no, .no, .no, .no] _ _ (m__law_dealings n1 k2 roots3)
    unfold m__law_dealings
    exact (jke_st (i := 3) (ste_shr (st_setL (jle_lst (jae_cons (je_tup jae_nil) jae_nil)) B.nd)) fun found4 => (jke_for1 (i := 4) (env := fun (s5 : D) => [.dat n1, .dat k2, .dat roots3, .dat s5, .no, .no, .no, .no, .no]) (s0 := found4) B (jie_range1 T.z_range (je_var 0)) (jg_name B.nd) (.same (.same (.same (.same (.no (.no (.no (.no (.no .nil))))))))) (fun s5 place9 kk6 => (jke_st (i := 5) (ste_shr (st_setL (jle_if (jte_cmp (or_in B.u65) od_in (je_var 4) (je_var 2) rfl) (jle_lst (jae_cons (je_indexA B (je_var 2) (je_var 4)) jae_nil)) (jle_rg1 B T.z_list T.z_range (je_var 1))) B.nd)) fun parts10 => (jke_st (i := 6) (ste_shr (st_setL (jle_lst jae_nil) B.nd)) fun later11 => (jke_for1 (i := 7) (env := fun (s12 : D) => [.dat n1, .dat k2, .dat roots3, .dat s5, .dat place9, .dat parts10, .dat s12, .no, .no]) (s0 := later11) B (jie_seq (je_var 3)) (jg_name B.nd) (.same (.same (.same (.same (.same (.same (.same (.no (.no .nil))))))))) (fun s12 dealing16 kk13 => (jke_st (i := 6) (st_set (je_op or_add od_add (je_var 6) (JLE.je (jle_lc1 (i := 8) (own := [("i", 8)]) B (jie_seq (je_var 5)) (blkOk_by (by rfl)) (fun _ _ _ _ _ => jg_name B.nd) (fun i18 => okTE_nil) (fun i18 => fun _ _ _ _ _ => (je_op or_add od_add (je_var 7) (je_tup (jae_cons (je_var 8) jae_nil))))))) B.nd) fun later17 => (jke_nil (wk_ex later17 (.same (.same (.same (.same (.same (.same (.same (.no (.no .nil))))))))))))) (fun s15 => (jke_st (i := 3) (st_set (je_var 6) B.nd) fun found19 => (jke_nil (wk_ex found19 (.same (.same (.same (.same (.no (.no (.no (.no (.no .nil))))))))))))))))) (fun s8 => (jke_ret (je_var 3)))))
theorem ok__law_all_parts (T : Tp K mg) : Kn P w K mg base "_law_all_parts" 6 (spR .lst 2 (F2 m__law_all_parts)) := by
  refine kn_lst (N := ["web", "deal", "one"]) (ps := ["web", "deal"]) T.F__law_all_parts T.m__law_all_parts (T.F__law_all_parts.binds (ps := ["web", "deal"]) fun _ _ _ _ _ _ us hl => match us, hl with | [_, _], _ => rfl) ⟨rfl, rfl, rfl, by decide +kernel, rfl, by decide +kernel, by decide +kernel⟩ rfl fun cdv A outer s H E B ds hl => ?_
  match ds, hl with
  | [web1, deal2], _ =>
    show JKE _ _ _ [.dat web1, .dat deal2, .no] _ _ (m__law_all_parts web1 deal2)
    unfold m__law_all_parts
    exact (jke_retL (jle_lc1 (i := 2) (own := [("one", 2)]) B (jie_seq (JM.by (c3_eq _ _ _ _) (je_kn (Kn.mono (ok__law_dealings T)) B (jae_cons (je_ix (je_var 0) je_int) (jae_cons (JM.by (c1_eq _ _) (je_callB call_len_seq cd_len T.z_len rfl (jae_cons (je_ix (je_var 1) je_int) jae_nil))) (jae_cons (je_ix (je_var 1) je_int) jae_nil)))))) (blkOk_by (by rfl)) (fun _ _ _ _ _ => jg_name B.nd) (fun one3 => okTE_one fun _ _ _ _ _ => (jte_tru (JM.by (c3_eq _ _ _ _) (je_kn (Kn.mono (ok__law_is_parts T)) (B.blk _ _ _ _ _) (jae_cons (je_var 0) (jae_cons (je_var 1) (jae_cons (je_var 2) jae_nil))))))) (fun one3 => fun _ _ _ _ _ => (je_var 2))))
theorem ok__law_put (T : Tp K mg) : Kn P w K mg base "_law_put" 1 (spR .dat 3 (F3 m__law_put)) := by
  refine kn_dat (N := ["state", "place", "i"]) (ps := ["state", "place", "i"]) T.F__law_put T.m__law_put (T.F__law_put.binds (ps := ["state", "place", "i"]) fun _ _ _ _ _ _ us hl => match us, hl with | [_, _, _], _ => rfl) ⟨rfl, rfl, rfl, by decide +kernel, rfl, by decide +kernel, by decide +kernel⟩ rfl fun cdv A outer s H E B ds hl => ?_
  match ds, hl with
  | [state1, place2, i3], _ =>
    show JKE _ _ _ [.dat state1, .dat place2, .dat i3] _ _ (m__law_put state1 place2 i3)
    unfold m__law_put
    exact (jke_ret (je_op or_add od_add (je_op or_add od_add (je_slice (je_var 0) jo_none (jo_some (je_var 1))) (je_tup (jae_cons (je_var 2) jae_nil))) (je_slice (je_var 0) (jo_some (je_op or_add od_add (je_var 1) je_int)) jo_none)))
theorem ok_law (T : Tp K mg) (hL : m_law qTrue 0) : FnG P w K mg base CX0 200 T.f_law T.fd_law ["script"] (spLaw K) := by
  refine FnG.mono (law_g (N := ["script", "pen", "turn", "web", "right", "drawn", "base", "values", "again", "value", "n", "deal", "k", "text", "place", "shown", "i", "a", "b"]) (ps := ["script"]) (i := 1) (k := 44) (L := fun _ => m_law qTrue) T.F_law ⟨rfl, rfl, rfl, by decide +kernel, rfl, by decide +kernel, by decide +kernel⟩ rfl rfl (by decide) (by decide) law_open_ok (fun _ => hL) (fun cdv A outer s H E B a => ps_open 1 B (Kn.mono (ok__law_open T))) (fun cdv A outer s H E B a pa ca cs => ?_)) (by omega)
  show JK _ _ _ [.raw (.ref a), .raw (.ref pa), .no, .no, .no, .no, .no, .no, .no, .no, .no, .no, .no, .no, .no, .no, .no, .no, .no] _ _ _ (m_law qTrue)
  unfold m_law
  exact (jk_for1 (i := 2) (env := fun (s1 : Unit) => [.raw (.ref a), .raw (.ref pa), .no, .no, .no, .no, .no, .no, .no, .no, .no, .no, .no, .no, .no, .no, .no, .no, .no]) (s0 := ()) B (jie_range1 T.z_range je_int) (jg_name B.nd) (.same (.same (.no (.no (.no (.no (.no (.no (.no (.no (.no (.no (.no (.no (.no (.no (.no (.no (.no .nil))))))))))))))))))) (fun s1 turn5 kk2 => (jk_st (i := 3) (st_set (jm_pn 1 (Kn.mono (ok__law_draw_web T)) B (jam_cons je_int (jam_cons je_int jam_nil))) B.nd) fun web6 => (jk_par (i := 10) (j := 11) B (jc_dat (je_ix (je_var 3) je_int) (jc_dat (jm_pn 1 (Kn.mono (ok__law_draw_deal T)) B (jam_cons (je_var 3) (jam_cons (jm_pn 1 (Kn.mono (ok__law_one_of T)) B (jam_cons (JLE.je (jle_lst (jae_cons je_int (jae_cons je_int (jae_cons je_int jae_nil))))) jam_nil)) jam_nil))) jc_nil)) (by decide) rfl rfl rfl (fun c8 c10 => (jk_onD (f := fun c => [.raw (.ref a), .raw (.ref pa), .dat turn5, .dat web6, .no, .no, .no, .no, .no, .no, c, c10, .no, .no, .no, .no, .no, .no, .no]) (fun n7 => (jk_onD (f := fun c => [.raw (.ref a), .raw (.ref pa), .dat turn5, .dat web6, .no, .no, .no, .no, .no, .no, .dat n7, c, .no, .no, .no, .no, .no, .no, .no]) (fun deal9 => (jk_parC (i := 12) (j := 13) B (jc_dat (JM.by (c1_eq _ _) (je_callB call_len_seq cd_len T.z_len rfl (jae_cons (je_ix (je_var 11) je_int) jae_nil))) (jc_dat (JM.by (c1_eq _ _) (je_callB (cr_repr B.hg B.u64) cd_repr T.z_repr rfl (jae_cons (je_tup (jae_cons (je_var 3) (jae_cons (je_var 11) jae_nil))) jae_nil))) jc_nil)) (fun c12 c14 => (jk_onD (f := fun c => [.raw (.ref a), .raw (.ref pa), .dat turn5, .dat web6, .no, .no, .no, .no, .no, .no, .dat n7, .dat deal9, c, c14, .no, .no, .no, .no, .no]) (fun k11 => (jk_onD (f := fun c => [.raw (.ref a), .raw (.ref pa), .dat turn5, .dat web6, .no, .no, .no, .no, .no, .no, .dat n7, .dat deal9, .dat k11, c, .no, .no, .no, .no, .no]) (fun text13 => (jk_st (i := 4) (st_shr (st_setL (JL.by (c2_eq _ _ _) (jle_kn (Kn.mono (ok__law_all_parts T)) B (jae_cons (je_var 3) (jae_cons (je_var 11) jae_nil)))) B.nd)) fun right15 => (jk_st (i := 5) (st_set (jm_callTyM call_tupF cd_tuple T.z_tuple rfl (jam_cons (JL.jmM (jl_lc1M (i := 14) (own := [("place", 14)]) B (jie_range1 T.z_range (je_var 10)) (blkOk_by (by rfl)) (fun _ _ _ _ _ => jg_name B.nd) (fun place17 => okT_nilM) (fun place17 => fun _ _ _ _ _ => (jm_pn 1 (Kn.mono (ok__law_take T)) (B.blk _ _ _ _ _) (jam_cons (je_var 12) jam_nil))))) jam_nil)) B.nd) fun drawn16 => (jk_st (i := 6) (st_set (jm_ifM (jte_cmp (or_ne B.u64) od_ne (je_var 4) (JLE.je (jle_lst jae_nil)) rfl) (jm_pn 1 (Kn.mono (ok__law_one_of T)) B (jam_cons (je_var 4) jam_nil)) (jm_pn 1 (Kn.mono (ok__law_one_of T)) B (jam_cons (JM.by (c3_eq _ _ _ _) (je_kn (Kn.mono (ok__law_dealings T)) B (jae_cons (je_var 10) (jae_cons (je_var 12) (jae_cons (je_ix (je_var 11) je_int) jae_nil))))) jam_nil))) B.nd) fun base18 => (jk_stL (i := 7) (st_setL (jle_op op_cat odl_cat (je_slice (je_var 4) jo_none (jo_some je_int)) (JLE.je (jle_lst (jae_cons (je_var 6) (jae_cons (je_var 5) (jae_cons (JLE.je (JL.by (c1_eq _ _) (jle_callTy call_list_of cd_list T.z_list rfl (jae_cons (je_var 6) jae_nil)))) (jae_cons (je_slice (je_var 6) (jo_some je_int) jo_none) (jae_cons (je_op or_add od_add (je_var 6) (je_tup (jae_cons je_int jae_nil))) (jae_cons (JM.by (c1_eq _ _) (je_callTy call_tupF cd_tuple T.z_tuple rfl (jae_cons (JLE.je (jle_lc1 (i := 16) (own := [("i", 16)]) B (jie_seq (je_var 6)) (blkOk_by (by rfl)) (fun _ _ _ _ _ => jg_name B.nd) (fun i20 => okTE_nil) (fun i20 => fun _ _ _ _ _ => (je_cmp (or_eq B.u64) od_eq (je_var 16) je_int rfl)))) jae_nil))) (jae_cons je_non (jae_cons (je_tup jae_nil) jae_nil))))))))))) B.nd) fun values19 => (jk_for1 (i := 8) (env := fun (s21 : List D) => [.raw (.ref a), .raw (.ref pa), .dat turn5, .dat web6, .dat right15, .dat drawn16, .dat base18, .own s21, .no, .no, .dat n7, .dat deal9, .dat k11, .dat text13, .no, .no, .no, .no, .no]) (s0 := values19) B (jie_range1 T.z_range je_int) (jg_name B.nd) (.same (.same (.same (.same (.same (.same (.same (.same (.no (.no (.same (.same (.same (.same (.no (.no (.no (.no (.no .nil))))))))))))))))))) (fun s21 again25 kk22 => (jk_st (i := 14) (st_set (jm_pn 1 (Kn.mono (ok__law_take T)) B (jam_cons (je_var 10) jam_nil)) B.nd) fun place26 => (jk_app 7 (jm_knM (Kn.mono (ok__law_put T)) B (jam_cons (je_var 6) (jam_cons (je_var 14) (jam_cons (jm_pn 1 (Kn.mono (ok__law_one_of T)) B (jam_cons (JLE.je (jle_lst (jae_cons je_int (jae_cons je_int (jae_cons (je_var 12) (jae_cons (je_neg je_int) (jae_cons (je_op op_sub od_sub (je_var 12) je_int) jae_nil))))))) jam_nil)) jam_nil)))) fun d28 => (jk_nil (wk_exM (s21 ++ [d28]) (.same (.same (.same (.same (.same (.same (.same (.same (.no (.no (.same (.same (.same (.same (.no (.no (.no (.no (.no .nil)))))))))))))))))))))))) (fun s24 => (jk_give 7 (jk_for1 (i := 9) (env := fun (s30 : Unit) => [.raw (.ref a), .raw (.ref pa), .dat turn5, .dat web6, .dat right15, .dat drawn16, .dat base18, .dat (PyData.list s24), .no, .no, .dat n7, .dat deal9, .dat k11, .dat text13, .no, .no, .no, .no, .no]) (s0 := ()) B (ji_seqM (jm_opM or_add od_add (jm_opM or_add od_add (je_var 7) (JL.jmM (jl_lc1M (i := 8) (own := [("again", 8)]) B (jie_range1 T.z_range je_int) (blkOk_by (by rfl)) (fun _ _ _ _ _ => jg_name B.nd) (fun again29 => okT_nilM) (fun again29 => fun _ _ _ _ _ => (jm_pn 1 (Kn.mono (ok__law_bent T)) (B.blk _ _ _ _ _) (jam_cons (je_var 6) jam_nil)))))) (JL.jmM (jl_lstM (jam_cons (jm_pn 1 (Kn.mono (ok__law_odd T)) B jam_nil) jam_nil))))) (jg_name B.nd) (.same (.same (.same (.same (.same (.same (.same (.same (.no (.no (.same (.same (.same (.same (.no (.no (.no (.no (.no .nil))))))))))))))))))) (fun s30 value34 kk31 => (jk_st (i := 15) (st_set (JM.by (c1_eq _ _) (je_callB (cr_repr B.hg B.u64) cd_repr T.z_repr rfl (jae_cons (je_var 9) jae_nil))) B.nd) fun shown35 => (jk_ifM (jte_not (jte_tru (JM.by (c2_eq _ _ _) (je_kn (Kn.mono (ok__law_same T)) B (jae_cons (JM.by (c3_eq _ _ _ _) (je_kn (Kn.mono (ok_is_parts T)) B (jae_cons (je_var 3) (jae_cons (je_var 11) (jae_cons (je_var 9) jae_nil))))) (jae_cons (JM.by (c3_eq _ _ _ _) (je_kn (Kn.mono (ok__law_is_parts T)) B (jae_cons (je_var 3) (jae_cons (je_var 11) (jae_cons (je_var 9) jae_nil))))) jae_nil)))))) (jk_ret je_bl) (jk_nil (jk_ifM (jte_cmp (or_ne B.u64) od_ne (JM.by (c1_eq _ _) (je_callB (cr_repr B.hg B.u64) cd_repr T.z_repr rfl (jae_cons (je_var 9) jae_nil))) (je_var 15) rfl) (jk_ret je_bl) (jk_nil (jk_nil (wk_exM () (.same (.same (.same (.same (.same (.same (.same (.same (.no (.no (.same (.same (.same (.same (.no (.no (.no (.no (.no .nil))))))))))))))))))))))))))) (fun s33 => (jk_ifM (jte_not (jte_tru (JM.by (c2_eq _ _ _) (je_kn (Kn.mono (ok__law_same T)) B (jae_cons (JLE.je (jle_lc1 (i := 16) (own := [("i", 16)]) B (jie_range1 T.z_range (je_var 12)) (blkOk_by (by rfl)) (fun _ _ _ _ _ => jg_name B.nd) (fun i36 => okTE_nil) (fun i36 => fun _ _ _ _ _ => (JM.by (c2_eq _ _ _) (je_kn (Kn.mono (ok_part_of T)) (B.blk _ _ _ _ _) (jae_cons (je_var 5) (jae_cons (je_var 16) jae_nil))))))) (jae_cons (JLE.je (jle_lc1 (i := 16) (own := [("i", 16)]) B (jie_range1 T.z_range (je_var 12)) (blkOk_by (by rfl)) (fun _ _ _ _ _ => jg_name B.nd) (fun i37 => okTE_nil) (fun i37 => fun _ _ _ _ _ => (JM.by (c2_eq _ _ _) (je_kn (Kn.mono (ok__law_part T)) (B.blk _ _ _ _ _) (jae_cons (je_var 5) (jae_cons (je_var 16) jae_nil))))))) jae_nil)))))) (jk_ret je_bl) (jk_nil (jk_ifM (jte_not (jte_tru (JM.by (c2_eq _ _ _) (je_kn (Kn.mono (ok__law_same T)) B (jae_cons (JM.by (c2_eq _ _ _) (je_kn (Kn.mono (ok_border T)) B (jae_cons (je_var 3) (jae_cons (je_var 5) jae_nil)))) (jae_cons (JM.by (c1_eq _ _) (je_callTy call_tupF cd_tuple T.z_tuple rfl (jae_cons (JLE.je (jle_lc2 (i1 := 17) (i2 := 18) (own := [("a", 17), ("b", 18)]) B (jie_seq (je_ix (je_var 3) je_int)) (blkOk_by (by rfl)) (fun _ _ _ _ _ => jg_tup B.hc (jgs_cons (jg_name B.nd) (jgs_cons (jg_name B.nd) jgs_nil))) (fun a38 b39 => okTE_one fun _ _ _ _ _ => (jte_cmp (or_ne B.u64) od_ne (je_ix (je_var 5) (je_var 17)) (je_ix (je_var 5) (je_var 18)) rfl)) (fun a38 b39 => fun _ _ _ _ _ => (je_tup (jae_cons (je_var 17) (jae_cons (je_var 18) jae_nil)))))) jae_nil))) jae_nil)))))) (jk_ret je_bl) (jk_nil (jk_ifM (jte_cmp (or_ne B.u64) od_ne (JM.by (c1_eq _ _) (je_callB (cr_repr B.hg B.u64) cd_repr T.z_repr rfl (jae_cons (je_tup (jae_cons (je_var 3) (jae_cons (je_var 11) jae_nil))) jae_nil))) (je_var 13) rfl) (jk_ret je_bl) (jk_nil (jk_nil (wk_exM () (.same (.same (.no (.no (.no (.no (.no (.no (.no (.no (.no (.no (.no (.no (.no (.no (.no (.no (.no .nil)))))))))))))))))))))))))))))))))))))))))))))))))) (fun s4 => (jk_ret je_bl)))
end
end Dl

set_option Elab.async false
set_option linter.all false
set_option autoImplicit false
set_option maxRecDepth 100000
set_option maxHeartbeats 1000000
namespace Dl
open PySem L2
section
variable {n : Nat} {ts : List (Nat × Nat)} {rs ss : List Nat}
/-! ### one value -/
def valI (q : D → Nat → Prop) (web6 deal9 value34 : D) (kk31 : Unit → Nat → Prop) : Nat → Prop := ((lift (C1 dRepr (some value34))) fun shown35 => (ifK (lift (((C2 r__law_same (C3 m_is_parts (some web6) (some deal9) (some value34)) (C3 m__law_is_parts (some web6) (some deal9) (some value34))).bind asT).map (!·))) ((lift (some (PyData.bool false))) q) (ifK (lift ((b2 dNe (C1 dRepr (some value34)) (some shown35)).bind asB)) ((lift (some (PyData.bool false))) q) (kk31 ()))))
@[irreducible] def valK (q : D → Nat → Prop) (web6 deal9 value34 : D) (kk31 : Unit → Nat → Prop) : Nat → Prop := valI q web6 deal9 value34 kk31
theorem val_eq : valI = valK := by
  funext q w d v k
  unfold valK
  rfl
theorem val_ok (W : Wb n ts) (hD : Deal n rs ss) {q : D → Nat → Prop} {kk : Unit → Nat → Prop} {m : Nat} {v : D} (h : Fine v) (hk : kk () m) : valK q (webD n ts) (dealD rs ss) v kk m := by
  obtain ⟨T, hT⟩ := h.repr
  rw [← val_eq]
  unfold valI
  refine ⟨_, hT, ?_⟩
  refine ifK_f ?_ (ifK_f ?_ hk)
  · rw [isParts_eval W hD h, lawIsParts_eval W hD h, same_bools]
    rfl
  · rw [hT, eq_text]
theorem vals_loop (W : Wb n ts) (hD : Deal n rs ss) {q : D → Nat → Prop} {k : Unit → Nat → Prop} {m : Nat} (hk : k () m) : ∀ (vs : List D), (∀ v ∈ vs, Fine v) → forK (S := Unit) (fun s30 value34 kk31 => valK q (webD n ts) (dealD rs ss) value34 kk31) vs () k m
  | [], _ => hk
  | v :: vs, h => val_ok W hD (h v List.mem_cons_self) (vals_loop W hD hk vs fun w hw => h w (List.mem_cons_of_mem _ hw))
/-! ### near ones -/
def nrpI (n7 k11 base18 : D) (s21 : List D) (kk22 : List D → Nat → Prop) : Nat → Prop := ((drawM (consM (lift (some n7)) nilM) (G1 m__law_take)) fun place26 => ((appM (consM (lift (some base18)) (consM (lift (some place26)) (consM (drawM (consM (lift ((consO (some (PyData.int 0)) (consO (some (PyData.int 1)) (consO (some k11) (consO ((some (PyData.int 1)).bind dNeg) (consO (b2 dSub (some k11) (some (PyData.int 1))) (some [])))))).map PyData.list)) nilM) (G1 m__law_one_of)) nilM))) (F3 m__law_put)) fun d28 m => s21.length < sizeLine ∧ ((kk22 (s21 ++ [d28]))) m))
@[irreducible] def nrpK (n7 k11 base18 : D) (s21 : List D) (kk22 : List D → Nat → Prop) : Nat → Prop := nrpI n7 k11 base18 s21 kk22
theorem nrp_eq : nrpI = nrpK := by
  funext a b c d e
  unfold nrpK
  rfl
theorem put_small {zs : List Int} (h : ∀ z ∈ zs, z.natAbs < 1000000) {p : Nat} {i : Int} (hi : i.natAbs < 1000000) : ∀ z ∈ putL zs p i, z.natAbs < 1000000 := fun z hz => by
  unfold putL at hz
  rcases List.mem_append.mp hz with hz | hz
  · exact h z (List.mem_of_mem_take hz)
  · rcases List.mem_cons.mp hz with rfl | hz
    · exact hi
    · exact h z (List.mem_of_mem_drop hz)
theorem nrp_ok {k : Nat} {zs : List Int} (h0 : 0 < n) (hn : n ≤ 12) (hk : k ≤ 12) (hz : zs.length = n) (hs : ∀ z ∈ zs, z.natAbs < 1000000) {vs : List D} {kk : List D → Nat → Prop} {m : Nat} (hl : vs.length ≤ 500) (hv : ∀ v ∈ vs, Fine v) (hm : m + 2 ≤ 1000000000) (hkk : ∀ (ws : List D) m', m' ≤ m + 2 → ws.length = vs.length + 1 → (∀ v ∈ ws, Fine v) → kk ws m') :
    nrpK (.int (n : Nat)) (.int (k : Nat)) (.tuple (ofI zs)) vs kk m := by
  rw [← nrp_eq]
  unfold nrpI
  refine (sp_draw (k := 0) (n := n) (sp_lift rfl) h0 (by omega)).use (by omega) fun d m1 hm1 hd => ?_
  obtain ⟨p, rfl, hp⟩ := hd
  have e5 : b2 dSub (some (PyData.int (k : Nat))) (some (PyData.int 1)) = some (.int ((k : Int) - 1)) := sub_ok _ _
  have so : Sp 1 (drawM (consM (lift ((consO (some (PyData.int 0)) (consO (some (PyData.int 1)) (consO (some (PyData.int (k : Nat))) (consO ((some (PyData.int 1)).bind dNeg) (consO (b2 dSub (some (PyData.int (k : Nat))) (some (PyData.int 1))) (some [])))))).map PyData.list)) nilM) (G1 m__law_one_of)) (fun d => d ∈ ([.int 0, .int 1, .int (k : Nat), .int (-1), .int ((k : Int) - 1)] : List D)) := by
    rw [e5]
    exact sp_oneL rfl (by simp) (by simp)
  refine (sp_app (sp_cons (sp_lift (a := PyData.tuple (ofI zs)) rfl) (sp_cons (sp_lift (a := PyData.int (p : Nat)) rfl) (sp_cons so sp_nil))) (F := F3 m__law_put) (Φ := fun d => Fine d) fun ds hds => ?_).use (by omega) fun d m2 hm2 hd => ?_
  · obtain ⟨a, r, rfl, rfl, b, r2, rfl, rfl, c, r3, rfl, hc, rfl⟩ := hds
    have hi : ∃ i : Int, c = .int i ∧ i.natAbs < 1000000 := by
      simp only [List.mem_cons, List.not_mem_nil, or_false] at hc
      rcases hc with rfl | rfl | rfl | rfl | rfl
      · exact ⟨0, rfl, by decide⟩
      · exact ⟨1, rfl, by decide⟩
      · exact ⟨(k : Int), rfl, by omega⟩
      · exact ⟨-1, rfl, by decide⟩
      · exact ⟨(k : Int) - 1, rfl, by omega⟩
    obtain ⟨i, rfl, hi⟩ := hi
    refine ⟨_, lawPut_eval (by omega) (by omega) i, ?_⟩
    have := smL_ofI (put_small hs (p := p) hi)
    rw [put_len (by omega)] at this
    exact (this.tup.mono (c2 := 1000) (e2 := 1) (by omega) (Nat.le_refl _)).fine
  · exact ⟨by rw [sizeLine_eq]; omega, hkk _ m2 (by omega) (by simp) fun v h => by
      rcases List.mem_append.mp h with h | h
      · exact hv v h
      · rw [List.mem_singleton.mp h]; exact hd⟩
theorem nrp_loop {k : Nat} {zs : List Int} (h0 : 0 < n) (hn : n ≤ 12) (hk : k ≤ 12) (hz : zs.length = n) (hs : ∀ z ∈ zs, z.natAbs < 1000000) {K : List D → Nat → Prop} : ∀ (ds vs : List D) (m : Nat), vs.length + ds.length ≤ 500 → (∀ v ∈ vs, Fine v) → m + 2 * ds.length ≤ 1000000000 → (∀ (ws : List D) m', m' ≤ m + 2 * ds.length → ws.length = vs.length + ds.length → (∀ v ∈ ws, Fine v) → K ws m') →
    forK (S := List D) (fun s21 again25 kk22 => nrpK (.int (n : Nat)) (.int (k : Nat)) (.tuple (ofI zs)) s21 kk22) ds vs K m
  | [], vs, m, _, hv, _, hK => hK vs m (by simp) (by simp) hv
  | d :: ds, vs, m, hl, hv, hm, hK => by
    rw [List.length_cons] at hl hm hK
    rw [forK_cons]
    exact nrp_ok h0 hn hk hz hs (by omega) hv (by omega) fun ws m' hm' hw hf => nrp_loop h0 hn hk hz hs ds ws m' (by omega) hf (by omega) fun us m2 hm2 hu hf2 => hK us m2 (by omega) (by omega) hf2
/-! ### lists of parts -/
theorem parts_list {xs : List Nat} (k : Nat) (hk : k < 100000) {f : D → Option D} (hf : ∀ i : Nat, i < k → f (.int (i : Nat)) = some (.tuple (ofN (plc (isI (i : Int)) (xs.map fun (i : Nat) => (i : Int)))))) : lcO (C1 (fun x => dRange [x]) (some (PyData.int (k : Nat)))) (fun d => turnO (some true) (f d)) = some ((List.range k).map fun i => .tuple (ofN (plc (isI (i : Int)) (xs.map fun (i : Nat) => (i : Int))))) :=
  lcO_map (g := fun (i : Nat) => PyData.int i) (List.range k) (range_items hk) (by rw [List.length_range, sizeLine_eq]; omega) fun i hi => hf i (List.mem_range.mp hi)
end
def bodyI (q : D → Nat → Prop) (turn5 : D) (kk2 : Unit → Nat → Prop) : Nat → Prop := ((drawM (consM (lift (some (PyData.int 1))) (consM (lift (some (PyData.int 7))) nilM)) (G2 m__law_draw_web)) fun web6 => ((consDM (lift (b2 dIx (some web6) (some (PyData.int 0)))) (consDM (drawM (consM (lift (some web6)) (consM (drawM (consM (lift ((consO (some (PyData.int 3)) (consO (some (PyData.int 3)) (consO (some (PyData.int 5)) (some [])))).map PyData.list)) nilM) (G1 m__law_one_of)) nilM)) (G2 m__law_draw_deal)) nilCM)) (cel2M (fun c8 c10 => (onDM (fun n7 => (onDM (fun deal9 => ((consDM (lift (C1 dLen (b2 dIx (some deal9) (some (PyData.int 0))))) (consDM (lift (C1 dRepr ((consO (some web6) (consO (some deal9) (some []))).map PyData.tuple))) nilCM)) (cel2M (fun c12 c14 => (onDM (fun k11 => (onDM (fun text13 => ((lstM (lift (C2 m__law_all_parts (some web6) (some deal9)))) fun right15 => ((appM (consM (lstM (lcM (lift (C1 (fun x => dRange [x]) (some n7))) fun place17 => turnM (lift (some true)) (drawM (consM (lift (some k11)) nilM) (G1 m__law_take)))) nilM) (F1 dTup)) fun drawn16 => ((ifM (lift ((b2 dNe (some right15) ((some []).map PyData.list)).bind asB)) (drawM (consM (lift (some right15)) nilM) (G1 m__law_one_of)) (drawM (consM (lift (C3 m__law_dealings (some n7) (some k11) (b2 dIx (some deal9) (some (PyData.int 0))))) nilM) (G1 m__law_one_of))) fun base18 => ((lift (C2 dCatL (slO (some right15) (some none) ((some (PyData.int 3)).bind asI)) ((consO (some base18) (consO (some drawn16) (consO ((C1 dItems (some base18)).map PyData.list) (consO (slO (some base18) ((some (PyData.int 1)).bind asI) (some none)) (consO (b2 dAdd (some base18) ((consO (some (PyData.int 0)) (some [])).map PyData.tuple)) (consO (C1 dTup ((lcO ((some base18).bind dItems) fun i20 => turnO (some true) (b2 dEq (some i20) (some (PyData.int 1)))).map PyData.list)) (consO (some PyData.none) (consO ((some []).map PyData.tuple) (some []))))))))).map PyData.list))) fun values19 => ((lift (C1 (fun x => dRange [x]) (some (PyData.int 4)))) fun ds => forK (S := List D) (fun s21 again25 kk22 => ((drawM (consM (lift (some n7)) nilM) (G1 m__law_take)) fun place26 => ((appM (consM (lift (some base18)) (consM (lift (some place26)) (consM (drawM (consM (lift ((consO (some (PyData.int 0)) (consO (some (PyData.int 1)) (consO (some k11) (consO ((some (PyData.int 1)).bind dNeg) (consO (b2 dSub (some k11) (some (PyData.int 1))) (some [])))))).map PyData.list)) nilM) (G1 m__law_one_of)) nilM))) (F3 m__law_put)) fun d28 m => s21.length < sizeLine ∧ ((kk22 (s21 ++ [d28]))) m))) ds values19 fun s24 => ((bindM (op2 dAdd (op2 dAdd (lift (some (PyData.list s24))) (lstM (lcM (lift (C1 (fun x => dRange [x]) (some (PyData.int 4)))) fun again29 => turnM (lift (some true)) (drawM (consM (lift (some base18)) nilM) (G1 r__law_bent))))) (lstM (consM (drawM nilM (G0 m__law_odd)) nilM))) dItems) fun ds => forK (S := Unit) (fun s30 value34 kk31 => ((lift (C1 dRepr (some value34))) fun shown35 => (ifK (lift (((C2 r__law_same (C3 m_is_parts (some web6) (some deal9) (some value34)) (C3 m__law_is_parts (some web6) (some deal9) (some value34))).bind asT).map (!·))) ((lift (some (PyData.bool false))) q) (ifK (lift ((b2 dNe (C1 dRepr (some value34)) (some shown35)).bind asB)) ((lift (some (PyData.bool false))) q) (kk31 ()))))) ds () fun s33 => (ifK (lift (((C2 r__law_same ((lcO (C1 (fun x => dRange [x]) (some k11)) fun i36 => turnO (some true) (C2 m_part_of (some drawn16) (some i36))).map PyData.list) ((lcO (C1 (fun x => dRange [x]) (some k11)) fun i37 => turnO (some true) (C2 m__law_part (some drawn16) (some i37))).map PyData.list)).bind asT).map (!·))) ((lift (some (PyData.bool false))) q) (ifK (lift (((C2 r__law_same (C2 m_border (some web6) (some drawn16)) (C1 dTup ((lcO ((b2 dIx (some web6) (some (PyData.int 1))).bind dItems) fun d => un2 d fun a38 b39 => turnO ((b2 dNe (b2 dIx (some drawn16) (some a38)) (b2 dIx (some drawn16) (some b39))).bind asB) ((consO (some a38) (consO (some b39) (some []))).map PyData.tuple)).map PyData.list))).bind asT).map (!·))) ((lift (some (PyData.bool false))) q) (ifK (lift ((b2 dNe (C1 dRepr ((consO (some web6) (consO (some deal9) (some []))).map PyData.tuple)) (some text13)).bind asB)) ((lift (some (PyData.bool false))) q) (kk2 ()))))))))))) c14)) c12))))) c10)) c8)))))
@[irreducible] def bodyK (q : D → Nat → Prop) (turn5 : D) (kk2 : Unit → Nat → Prop) : Nat → Prop := bodyI q turn5 kk2
theorem bodyK_eq : bodyI = bodyK := by
  funext q t kk
  unfold bodyK
  rfl
theorem turn_ok {q : D → Nat → Prop} {kk : Unit → Nat → Prop} {m : Nat} {t : D} (hm : m + 800 ≤ 1000000000) (hk : ∀ m', m' ≤ m + 800 → kk () m') : bodyK q t kk m := by
  rw [← bodyK_eq]
  unfold bodyI
  have sw : Sp 200 (drawM (consM (lift (some (PyData.int 1))) (consM (lift (some (PyData.int 7))) nilM)) (G2 m__law_draw_web)) (fun d => ∃ n ts, d = webD n ts ∧ Wb n ts ∧ 1 ≤ n ∧ n ≤ 7) := fun q m hm hq => ⟨_, rfl, _, rfl, sp_web (lo := 1) (hi := 7) (by decide) (by decide) (by decide) q m hm hq⟩
  refine sw.use (by omega) fun d m1 hm1 hd => ?_
  obtain ⟨n, ts, rfl, W, hn1, hn7⟩ := hd
  refine ⟨_, web0 n ts, ?_⟩
  refine (sp_dealOf (n := n) (ts := ts) (his := [3, 3, 5]) hn1 (by omega) (by decide) (by decide) (b := 5) (by decide) (by decide)).useD (by omega) fun d m2 hm2 hd => ?_
  obtain ⟨rs, ss, rfl, hD, h5⟩ := hd
  have hk0 := hD.lo
  have hkn := hD.hi
  have hpow := pow_few h5 hn7
  obtain ⟨T, hT⟩ := pair_repr W hD
  refine ⟨_, (by rw [deal0]; exact len_tup rs), ?_⟩
  refine ⟨_, hT, ?_⟩
  refine ⟨_, lawAll_eval W hD (by omega), ?_⟩
  have hall : ∀ d ∈ allP n ts rs ss, d ∈ dealL rs.length rs n := fun d h => (List.mem_filter.mp h).1
  have hdl := deal_len (rs := rs) hk0 n
  have hal : (allP n ts rs ss).length ≤ 78125 := Nat.le_trans (List.length_filter_le _ _) (by omega)
  have hdeal : ∀ d ∈ dealL rs.length rs n, d.length = n ∧ ∀ x ∈ d, x < rs.length := fun d h => deal_lt hk0 (Nat.le_refl _) h
  refine (sp_app (sp_cons (sp_lst (sp_nats (n := n) (k := rs.length) (range_items (by omega)) rfl (by omega) (by omega) (by omega))) sp_nil) (F := F1 dTup) (Φ := fun d => ∃ xs : List Nat, d = .tuple (ofN xs) ∧ xs.length = n ∧ ∀ x ∈ xs, x < rs.length) fun ds hds => ?_).use (by omega) fun d m3 hm3 hd => ?_
  · obtain ⟨d, r, rfl, ⟨es, rfl, xs, rfl, h1, h2⟩, rfl⟩ := hds
    exact ⟨_, rfl, xs, rfl, h1, h2⟩
  obtain ⟨ws, rfl, hw, hw2⟩ := hd
  have sb : Sp (max 1 1) (ifM (lift ((b2 dNe (some (PyData.list (tupL (allP n ts rs ss)))) ((some []).map PyData.list)).bind asB)) (drawM (consM (lift (some (PyData.list (tupL (allP n ts rs ss))))) nilM) (G1 m__law_one_of)) (drawM (consM (lift (C3 m__law_dealings (some (PyData.int (n : Nat))) (some (PyData.int (rs.length : Nat))) (b2 dIx (some (dealD rs ss)) (some (PyData.int 0))))) nilM) (G1 m__law_one_of))) (fun d => ∃ xs : List Nat, d = .tuple (ofN xs) ∧ xs.length = n ∧ ∀ x ∈ xs, x < rs.length) := by
    refine sp_ifM (ne_nilT _) (fun hb => ?_) fun hb => ?_
    · refine (sp_oneL (ds := tupL (allP n ts rs ss)) rfl ?_ (by rw [tupL_len]; omega)).mono (Nat.le_refl _) fun d hd => ?_
      · rw [tupL_len]
        cases he : allP n ts rs ss with
        | nil => rw [he] at hb; cases hb
        | cons _ _ => simp
      · obtain ⟨e, he, rfl⟩ := List.mem_map.mp hd
        exact ⟨e, rfl, hdeal e (hall e he)⟩
    · refine (sp_oneL (ds := tupL (dealL rs.length rs n)) (by rw [deal0]; exact lawDealings_eval hk0 (by omega) (by omega) (by omega)) (by rw [tupL_len]; omega) (by rw [tupL_len]; omega)).mono (Nat.le_refl _) fun d hd => ?_
      obtain ⟨e, he, rfl⟩ := List.mem_map.mp hd
      exact ⟨e, rfl, hdeal e he⟩
  refine sb.use (by omega) fun d m4 hm4 hd => ?_
  obtain ⟨bs, rfl, hb, hb2⟩ := hd
  have hbs : ∀ x ∈ bs, x < 1000000 := fun x hx => by have := hb2 x hx; omega
  have lb : SmL 12 0 (ofN bs) := (smL_ofN hbs).mono (by omega) (Nat.le_refl _)
  have eb : EO (some (PyData.tuple (ofN bs))) 13 1 := EO.of lb.tup
  have ew : EO (some (PyData.tuple (ofN ws))) 13 1 := EO.of ((smL_ofN fun x hx => by have := hw2 x hx; omega).mono (c2 := 12) (by omega) (Nat.le_refl _)).tup
  have ebl : EO ((C1 dItems (some (PyData.tuple (ofN bs)))).map PyData.list) 13 1 := EO.of (d := .list (ofN bs)) lb.lst
  have ebd : EO (slO (some (PyData.tuple (ofN bs))) ((some (PyData.int 1)).bind asI) (some none)) 13 1 := EO.of (d := .tuple (cutD (ofN bs) (some 1) none)) (lb.sub (cut_sub _ _ _)).tup
  have enil : EO ((some []).map PyData.tuple) 1 1 := EO.of (d := .tuple []) (smL_nil (e := 0)).tup
  have e0 : EO (some (PyData.int 0)) 1 0 := eo_int (by decide)
  obtain ⟨cs, hcs, hcl, hci⟩ := lcO_ex (P := fun e => Sm 1 0 e) (oi := (some (PyData.tuple (ofN bs))).bind dItems) (ds := ofN bs) rfl (by rw [ofN_len, sizeLine_eq]; omega) (F := fun i20 => turnO (some true) (b2 dEq (some i20) (some (PyData.int 1)))) fun d hd => by
    obtain ⟨s, hs, rfl⟩ := List.mem_map.mp hd
    exact ⟨.bool (decide ((s : Int) = 1)), by rw [eq_intB]; rfl, sm_bool _⟩
  rw [ofN_len] at hcl
  have ec : EO (C1 dTup ((lcO ((some (PyData.tuple (ofN bs))).bind dItems) fun i20 => turnO (some true) (b2 dEq (some i20) (some (PyData.int 1)))).map PyData.list)) 13 1 := by
    rw [hcs]
    exact EO.of (d := .tuple cs) ((smL_all hci).tup.mono (by omega) (Nat.le_refl _))
  have first : ((tupL (allP n ts rs ss)).take 3).length ≤ 3 ∧ ∀ v ∈ (tupL (allP n ts rs ss)).take 3, Fine v := ⟨by rw [List.length_take]; omega, fun v hv => fine_tupL (fs := allP n ts rs ss) (fun d h => by
    obtain ⟨h1, h2⟩ := hdeal d (hall d h)
    exact ⟨by omega, fun x hx => by have := h2 x hx; omega⟩) v (List.mem_of_mem_take hv)⟩
  obtain ⟨V1, hV1, v1⟩ := VO.cat first (VO.cons eb (VO.cons ew (VO.cons ebl (VO.cons ebd (VO.cons (eo_addT lb e0.one) (VO.cons ec (VO.cons (EO.of (sm_none (e := 0))) (VO.cons enil vo_nil))))))))
  have t3 : slO (some (PyData.list (tupL (allP n ts rs ss)))) (some none) ((some (PyData.int 3)).bind asI) = some (.list ((tupL (allP n ts rs ss)).take 3)) := takeDL _ 3
  refine ⟨V1, by rw [t3]; exact hV1, ?_⟩
  refine ⟨_, range_items (n := 4) (by decide), ?_⟩
  refine (?_ : forK (S := List D) (fun s21 again25 kk22 => nrpI (.int (n : Nat)) (.int (rs.length : Nat)) (.tuple (ofN bs)) s21 kk22) _ _ _ _)
  rw [nrp_eq, ofN_ofI bs]
  have hbz : ∀ z ∈ bs.map fun (i : Nat) => (i : Int), z.natAbs < 1000000 := fun z hz => by
    obtain ⟨x, hx, rfl⟩ := List.mem_map.mp hz
    have := hbs x hx
    omega
  refine nrp_loop (by omega) (by omega) (by omega) (by rw [List.length_map]; exact hb) hbz _ V1 m4 (by have := v1.1; rw [ofN_len, List.length_range]; omega) v1.2 (by rw [ofN_len, List.length_range]; omega) fun V2 m5 hm5 hV2 v2 => ?_
  rw [ofN_len, List.length_range] at hm5 hV2
  have hnb : nest (.tuple (ofI (bs.map fun (i : Nat) => (i : Int)))) = true := nestI hbz
  rw [← ofN_ofI] at hnb ⊢
  refine (sp_bind (f := dItems) (Φ := fun ds => ∀ e ∈ ds, Fine e) (sp_addV (sp_addV (sp_vals (k := 0) (a := 100) ⟨by have := v1.1; omega, v2⟩) (sp_bents (r := 4) hnb lb.tup (by decide) (by decide) (by decide)) (by decide)) (sp_lst (sp_consV sp_oddV sp_nilV)) (by decide)) fun d hd => ?_).use (by omega) fun ds m6 hm6 hds => ?_
  · obtain ⟨ds, rfl, _, h⟩ := hd
    exact ⟨ds, rfl, h⟩
  refine (?_ : forK (S := Unit) (fun s30 value34 kk31 => valI q (webD n ts) (dealD rs ss) value34 kk31) _ () _ _)
  rw [val_eq]
  refine vals_loop W hD ?_ ds hds
  have hwl : (ws.map fun (i : Nat) => (i : Int)).length = n := by rw [List.length_map]; exact hw
  rw [ofN_ofI ws]
  refine ifK_f ?_ (ifK_f ?_ (ifK_f ?_ (hk m6 (by omega))))
  · have a1 := parts_list (xs := ws) rs.length (by omega) (f := fun i36 => C2 m_part_of (some (PyData.tuple (ofI (ws.map fun (i : Nat) => (i : Int))))) (some i36)) fun i _ => partOf_eval (by omega) (i : Int)
    have a2 := parts_list (xs := ws) rs.length (by omega) (f := fun i37 => C2 m__law_part (some (PyData.tuple (ofI (ws.map fun (i : Nat) => (i : Int))))) (some i37)) fun i _ => lawPart_eval (by omega) (i : Int)
    rw [a1, a2]
    refine same_not (d := .list _) (flat_seq (.inl rfl) (by rw [List.length_map, List.length_range, sizeLine_eq]; omega) fun e he => ?_)
    obtain ⟨i, _, rfl⟩ := List.mem_map.mp he
    exact flat_ofN (by have := plc_len (isI (i : Int)) (ws.map fun (i : Nat) => (i : Int)); omega)
  · rw [border_eval W hwl, lawBorder_eval W hwl]
    have hf := W.few
    refine same_not (flat_seq (.inr rfl) (by have := List.length_filter_le (fun t : Nat × Nat => decide ((ws.map fun (i : Nat) => (i : Int)).getD t.1 0 ≠ (ws.map fun (i : Nat) => (i : Int)).getD t.2 0)) ts; unfold borderP; rw [List.length_map, sizeLine_eq]; omega) fun e he => ?_)
    obtain ⟨p, _, rfl⟩ := List.mem_map.mp he
    exact flat_ofN (xs := [p.1, p.2]) (by simp)
  · rw [hT, eq_text]
theorem turns_ok {q : D → Nat → Prop} {k : Unit → Nat → Prop} : ∀ (xs : List Nat) (m : Nat), m + 800 * xs.length ≤ 1000000000 → (∀ m', k () m') → forK (S := Unit) (fun s1 turn5 kk2 => bodyK q turn5 kk2) (ofN xs) () k m
  | [], m, _, hk => hk m
  | d :: ds, m, hm, hk => turn_ok (by rw [List.length_cons] at hm; omega) fun m' hm' => turns_ok ds m' (by rw [List.length_cons] at hm; omega) hk
theorem law_holds : m_law qTrue 0 := by
  unfold m_law
  refine ⟨_, range_items (n := 3) (by decide), ?_⟩
  refine (?_ : forK (S := Unit) (fun s1 turn5 kk2 => bodyI qTrue turn5 kk2) _ () _ _)
  rw [bodyK_eq]
  refine turns_ok _ _ (by rw [List.length_range]; decide) fun m' => ?_
  exact ⟨_, rfl, rfl⟩
end Dl

set_option Elab.async false
set_option linter.all false
set_option maxRecDepth 100000
namespace Dl
open PySem L2
/-! ### the end -/
theorem all_mk {l : PySem.W.OpenLaw} {w : World} {K : PySem.W.Frag} {h : Heap} {mg : Str → Option Value} {fa f1 f2 f3 f4 f5 f6 f7 f9 f10 f11 f12 f14 f15 f16 f17 f18 f19 f20 f21 f22 f23 f24 f25 f26 f27 f28 f29 f30 f31 f32 f33 f34 f35 f36 f37 f38 : Addr} (X : K.In h) (G : h.Ns mainGlobals mg) (hfa : mg "law" = some (.ref fa))
    {od1 an1 od2 an2 od3 an3 od4 an4 od5 an5 od6 an6 od7 an7 od9 an9 od10 an10 od11 an11 od12 an12 od14 an14 od15 an15 od16 an16 od17 an17 od18 an18 od19 an19 od20 an20 od21 an21 od22 an22 od23 an23 od24 an24 od25 an25 od26 an26 od27 an27 od28 an28 od29 an29 od30 an30 od31 an31 od32 an32 od33 an33 od34 an34 od35 an35 od36 an36 od37 an37 od38 an38 : Option Addr} {sl1 sl2 sl3 sl4 sl5 sl6 sl7 sl9 sl10 sl11 sl12 sl14 sl15 sl16 sl17 sl18 sl19 sl20 sl21 sl22 sl23 sl24 sl25 sl26 sl27 sl28 sl29 sl30 sl31 sl32 sl33 sl34 sl35 sl36 sl37 sl38 : Array (Option Value)} {oc1 kV1 dc1 pm1 cd1 ct1 oc2 kV2 dc2 pm2 cd2 ct2 oc3 kV3 dc3 pm3 cd3 ct3 oc4 kV4 dc4 pm4 cd4 ct4 oc5 kV5 dc5 pm5 cd5 ct5 oc6 kV6 dc6 pm6 cd6 ct6 oc7 kV7 dc7 pm7 cd7 ct7 oc9 kV9 dc9 pm9 cd9 ct9 oc10 kV10 dc10 pm10 cd10 ct10 oc11 kV11 dc11 pm11 cd11 ct11 oc12 kV12 dc12 pm12 cd12 ct12 oc14 kV14 dc14 pm14 cd14 ct14 oc15 kV15 dc15 pm15 cd15 ct15 oc16 kV16 dc16 pm16 cd16 ct16 oc17 kV17 dc17 pm17 cd17 ct17 oc18 kV18 dc18 pm18 cd18 ct18 oc19 kV19 dc19 pm19 cd19 ct19 oc20 kV20 dc20 pm20 cd20 ct20 oc21 kV21 dc21 pm21 cd21 ct21 oc22 kV22 dc22 pm22 cd22 ct22 oc23 kV23 dc23 pm23 cd23 ct23 oc24 kV24 dc24 pm24 cd24 ct24 oc25 kV25 dc25 pm25 cd25 ct25 oc26 kV26 dc26 pm26 cd26 ct26 oc27 kV27 dc27 pm27 cd27 ct27 oc28 kV28 dc28 pm28 cd28 ct28 oc29 kV29 dc29 pm29 cd29 ct29 oc30 kV30 dc30 pm30 cd30 ct30 oc31 kV31 dc31 pm31 cd31 ct31 oc32 kV32 dc32 pm32 cd32 ct32 oc33 kV33 dc33 pm33 cd33 ct33 oc34 kV34 dc34 pm34 cd34 ct34 oc35 kV35 dc35 pm35 cd35 ct35 oc36 kV36 dc36 pm36 cd36 ct36 oc37 kV37 dc37 pm37 cd37 ct37 oc38 kV38 dc38 pm38 cd38 ct38 : Value}
    (a1 : PySem.W.nsIn K mainGlobals "is_integer" = some (some (.ref f1))) (l1 : K.lookup f1 = some ⟨oc1, od1, .func (PySem.W.fnOf "is_integer" "is_integer" (defArgs s_is_integer) (defBody s_is_integer) (defScope s_is_integer) .none kV1 dc1 pm1 an1 cd1 ct1), sl1⟩) (c1 : PySem.W.codeIn K cd1 "is_integer" = true) (k1 : PySem.W.keepIn K (.ref f1) = true)
    (a2 : PySem.W.nsIn K mainGlobals "is_place" = some (some (.ref f2))) (l2 : K.lookup f2 = some ⟨oc2, od2, .func (PySem.W.fnOf "is_place" "is_place" (defArgs s_is_place) (defBody s_is_place) (defScope s_is_place) .none kV2 dc2 pm2 an2 cd2 ct2), sl2⟩) (c2 : PySem.W.codeIn K cd2 "is_place" = true) (k2 : PySem.W.keepIn K (.ref f2) = true)
    (a3 : PySem.W.nsIn K mainGlobals "every_place" = some (some (.ref f3))) (l3 : K.lookup f3 = some ⟨oc3, od3, .func (PySem.W.fnOf "every_place" "every_place" (defArgs s_every_place) (defBody s_every_place) (defScope s_every_place) .none kV3 dc3 pm3 an3 cd3 ct3), sl3⟩) (c3 : PySem.W.codeIn K cd3 "every_place" = true) (k3 : PySem.W.keepIn K (.ref f3) = true)
    (a4 : PySem.W.nsIn K mainGlobals "are_tied" = some (some (.ref f4))) (l4 : K.lookup f4 = some ⟨oc4, od4, .func (PySem.W.fnOf "are_tied" "are_tied" (defArgs s_are_tied) (defBody s_are_tied) (defScope s_are_tied) .none kV4 dc4 pm4 an4 cd4 ct4), sl4⟩) (c4 : PySem.W.codeIn K cd4 "are_tied" = true) (k4 : PySem.W.keepIn K (.ref f4) = true)
    (a5 : PySem.W.nsIn K mainGlobals "neighbours" = some (some (.ref f5))) (l5 : K.lookup f5 = some ⟨oc5, od5, .func (PySem.W.fnOf "neighbours" "neighbours" (defArgs s_neighbours) (defBody s_neighbours) (defScope s_neighbours) .none kV5 dc5 pm5 an5 cd5 ct5), sl5⟩) (c5 : PySem.W.codeIn K cd5 "neighbours" = true) (k5 : PySem.W.keepIn K (.ref f5) = true)
    (a6 : PySem.W.nsIn K mainGlobals "piece_of" = some (some (.ref f6))) (l6 : K.lookup f6 = some ⟨oc6, od6, .func (PySem.W.fnOf "piece_of" "piece_of" (defArgs s_piece_of) (defBody s_piece_of) (defScope s_piece_of) .none kV6 dc6 pm6 an6 cd6 ct6), sl6⟩) (c6 : PySem.W.codeIn K cd6 "piece_of" = true) (k6 : PySem.W.keepIn K (.ref f6) = true)
    (a7 : PySem.W.nsIn K mainGlobals "hangs" = some (some (.ref f7))) (l7 : K.lookup f7 = some ⟨oc7, od7, .func (PySem.W.fnOf "hangs" "hangs" (defArgs s_hangs) (defBody s_hangs) (defScope s_hangs) .none kV7 dc7 pm7 an7 cd7 ct7), sl7⟩) (c7 : PySem.W.codeIn K cd7 "hangs" = true) (k7 : PySem.W.keepIn K (.ref f7) = true)
    (a9 : PySem.W.nsIn K mainGlobals "is_dealing" = some (some (.ref f9))) (l9 : K.lookup f9 = some ⟨oc9, od9, .func (PySem.W.fnOf "is_dealing" "is_dealing" (defArgs s_is_dealing) (defBody s_is_dealing) (defScope s_is_dealing) .none kV9 dc9 pm9 an9 cd9 ct9), sl9⟩) (c9 : PySem.W.codeIn K cd9 "is_dealing" = true) (k9 : PySem.W.keepIn K (.ref f9) = true)
    (a10 : PySem.W.nsIn K mainGlobals "part_of" = some (some (.ref f10))) (l10 : K.lookup f10 = some ⟨oc10, od10, .func (PySem.W.fnOf "part_of" "part_of" (defArgs s_part_of) (defBody s_part_of) (defScope s_part_of) .none kV10 dc10 pm10 an10 cd10 ct10), sl10⟩) (c10 : PySem.W.codeIn K cd10 "part_of" = true) (k10 : PySem.W.keepIn K (.ref f10) = true)
    (a11 : PySem.W.nsIn K mainGlobals "is_parts" = some (some (.ref f11))) (l11 : K.lookup f11 = some ⟨oc11, od11, .func (PySem.W.fnOf "is_parts" "is_parts" (defArgs s_is_parts) (defBody s_is_parts) (defScope s_is_parts) .none kV11 dc11 pm11 an11 cd11 ct11), sl11⟩) (c11 : PySem.W.codeIn K cd11 "is_parts" = true) (k11 : PySem.W.keepIn K (.ref f11) = true)
    (a12 : PySem.W.nsIn K mainGlobals "border" = some (some (.ref f12))) (l12 : K.lookup f12 = some ⟨oc12, od12, .func (PySem.W.fnOf "border" "border" (defArgs s_border) (defBody s_border) (defScope s_border) .none kV12 dc12 pm12 an12 cd12 ct12), sl12⟩) (c12 : PySem.W.codeIn K cd12 "border" = true) (k12 : PySem.W.keepIn K (.ref f12) = true)
    (a14 : PySem.W.nsIn K mainGlobals "_law_open" = some (some (.ref f14))) (l14 : K.lookup f14 = some ⟨oc14, od14, .func (PySem.W.fnOf "_law_open" "_law_open" (defArgs s__law_open) (defBody s__law_open) (defScope s__law_open) .none kV14 dc14 pm14 an14 cd14 ct14), sl14⟩) (c14 : PySem.W.codeIn K cd14 "_law_open" = true) (k14 : PySem.W.keepIn K (.ref f14) = true)
    (a15 : PySem.W.nsIn K mainGlobals "_law_spread" = some (some (.ref f15))) (l15 : K.lookup f15 = some ⟨oc15, od15, .func (PySem.W.fnOf "_law_spread" "_law_spread" (defArgs s__law_spread) (defBody s__law_spread) (defScope s__law_spread) .none kV15 dc15 pm15 an15 cd15 ct15), sl15⟩) (c15 : PySem.W.codeIn K cd15 "_law_spread" = true) (k15 : PySem.W.keepIn K (.ref f15) = true)
    (a16 : PySem.W.nsIn K mainGlobals "_law_take" = some (some (.ref f16))) (l16 : K.lookup f16 = some ⟨oc16, od16, .func (PySem.W.fnOf "_law_take" "_law_take" (defArgs s__law_take) (defBody s__law_take) (defScope s__law_take) .none kV16 dc16 pm16 an16 cd16 ct16), sl16⟩) (c16 : PySem.W.codeIn K cd16 "_law_take" = true) (k16 : PySem.W.keepIn K (.ref f16) = true)
    (a17 : PySem.W.nsIn K mainGlobals "_law_same" = some (some (.ref f17))) (l17 : K.lookup f17 = some ⟨oc17, od17, .func (PySem.W.fnOf "_law_same" "_law_same" (defArgs s__law_same) (defBody s__law_same) (defScope s__law_same) .none kV17 dc17 pm17 an17 cd17 ct17), sl17⟩) (c17 : PySem.W.codeIn K cd17 "_law_same" = true) (k17 : PySem.W.keepIn K (.ref f17) = true)
    (a18 : PySem.W.nsIn K mainGlobals "_law_one_of" = some (some (.ref f18))) (l18 : K.lookup f18 = some ⟨oc18, od18, .func (PySem.W.fnOf "_law_one_of" "_law_one_of" (defArgs s__law_one_of) (defBody s__law_one_of) (defScope s__law_one_of) .none kV18 dc18 pm18 an18 cd18 ct18), sl18⟩) (c18 : PySem.W.codeIn K cd18 "_law_one_of" = true) (k18 : PySem.W.keepIn K (.ref f18) = true)
    (a19 : PySem.W.nsIn K mainGlobals "_law_odd" = some (some (.ref f19))) (l19 : K.lookup f19 = some ⟨oc19, od19, .func (PySem.W.fnOf "_law_odd" "_law_odd" (defArgs s__law_odd) (defBody s__law_odd) (defScope s__law_odd) .none kV19 dc19 pm19 an19 cd19 ct19), sl19⟩) (c19 : PySem.W.codeIn K cd19 "_law_odd" = true) (k19 : PySem.W.keepIn K (.ref f19) = true)
    (a20 : PySem.W.nsIn K mainGlobals "_law_bent" = some (some (.ref f20))) (l20 : K.lookup f20 = some ⟨oc20, od20, .func (PySem.W.fnOf "_law_bent" "_law_bent" (defArgs s__law_bent) (defBody s__law_bent) (defScope s__law_bent) .none kV20 dc20 pm20 an20 cd20 ct20), sl20⟩) (c20 : PySem.W.codeIn K cd20 "_law_bent" = true) (k20 : PySem.W.keepIn K (.ref f20) = true)
    (a21 : PySem.W.nsIn K mainGlobals "_law_is_whole" = some (some (.ref f21))) (l21 : K.lookup f21 = some ⟨oc21, od21, .func (PySem.W.fnOf "_law_is_whole" "_law_is_whole" (defArgs s__law_is_whole) (defBody s__law_is_whole) (defScope s__law_is_whole) .none kV21 dc21 pm21 an21 cd21 ct21), sl21⟩) (c21 : PySem.W.codeIn K cd21 "_law_is_whole" = true) (k21 : PySem.W.keepIn K (.ref f21) = true)
    (a22 : PySem.W.nsIn K mainGlobals "_law_draw_order" = some (some (.ref f22))) (l22 : K.lookup f22 = some ⟨oc22, od22, .func (PySem.W.fnOf "_law_draw_order" "_law_draw_order" (defArgs s__law_draw_order) (defBody s__law_draw_order) (defScope s__law_draw_order) .none kV22 dc22 pm22 an22 cd22 ct22), sl22⟩) (c22 : PySem.W.codeIn K cd22 "_law_draw_order" = true) (k22 : PySem.W.keepIn K (.ref f22) = true)
    (a23 : PySem.W.nsIn K mainGlobals "_law_web" = some (some (.ref f23))) (l23 : K.lookup f23 = some ⟨oc23, od23, .func (PySem.W.fnOf "_law_web" "_law_web" (defArgs s__law_web) (defBody s__law_web) (defScope s__law_web) .none kV23 dc23 pm23 an23 cd23 ct23), sl23⟩) (c23 : PySem.W.codeIn K cd23 "_law_web" = true) (k23 : PySem.W.keepIn K (.ref f23) = true)
    (a24 : PySem.W.nsIn K mainGlobals "_law_draw_web" = some (some (.ref f24))) (l24 : K.lookup f24 = some ⟨oc24, od24, .func (PySem.W.fnOf "_law_draw_web" "_law_draw_web" (defArgs s__law_draw_web) (defBody s__law_draw_web) (defScope s__law_draw_web) .none kV24 dc24 pm24 an24 cd24 ct24), sl24⟩) (c24 : PySem.W.codeIn K cd24 "_law_draw_web" = true) (k24 : PySem.W.keepIn K (.ref f24) = true)
    (a25 : PySem.W.nsIn K mainGlobals "_law_near" = some (some (.ref f25))) (l25 : K.lookup f25 = some ⟨oc25, od25, .func (PySem.W.fnOf "_law_near" "_law_near" (defArgs s__law_near) (defBody s__law_near) (defScope s__law_near) .none kV25 dc25 pm25 an25 cd25 ct25), sl25⟩) (c25 : PySem.W.codeIn K cd25 "_law_near" = true) (k25 : PySem.W.keepIn K (.ref f25) = true)
    (a26 : PySem.W.nsIn K mainGlobals "_law_piece" = some (some (.ref f26))) (l26 : K.lookup f26 = some ⟨oc26, od26, .func (PySem.W.fnOf "_law_piece" "_law_piece" (defArgs s__law_piece) (defBody s__law_piece) (defScope s__law_piece) .none kV26 dc26 pm26 an26 cd26 ct26), sl26⟩) (c26 : PySem.W.codeIn K cd26 "_law_piece" = true) (k26 : PySem.W.keepIn K (.ref f26) = true)
    (a27 : PySem.W.nsIn K mainGlobals "_law_pieces" = some (some (.ref f27))) (l27 : K.lookup f27 = some ⟨oc27, od27, .func (PySem.W.fnOf "_law_pieces" "_law_pieces" (defArgs s__law_pieces) (defBody s__law_pieces) (defScope s__law_pieces) .none kV27 dc27 pm27 an27 cd27 ct27), sl27⟩) (c27 : PySem.W.codeIn K cd27 "_law_pieces" = true) (k27 : PySem.W.keepIn K (.ref f27) = true)
    (a28 : PySem.W.nsIn K mainGlobals "_law_hangs" = some (some (.ref f28))) (l28 : K.lookup f28 = some ⟨oc28, od28, .func (PySem.W.fnOf "_law_hangs" "_law_hangs" (defArgs s__law_hangs) (defBody s__law_hangs) (defScope s__law_hangs) .none kV28 dc28 pm28 an28 cd28 ct28), sl28⟩) (c28 : PySem.W.codeIn K cd28 "_law_hangs" = true) (k28 : PySem.W.keepIn K (.ref f28) = true)
    (a29 : PySem.W.nsIn K mainGlobals "_law_draw_roots" = some (some (.ref f29))) (l29 : K.lookup f29 = some ⟨oc29, od29, .func (PySem.W.fnOf "_law_draw_roots" "_law_draw_roots" (defArgs s__law_draw_roots) (defBody s__law_draw_roots) (defScope s__law_draw_roots) .none kV29 dc29 pm29 an29 cd29 ct29), sl29⟩) (c29 : PySem.W.codeIn K cd29 "_law_draw_roots" = true) (k29 : PySem.W.keepIn K (.ref f29) = true)
    (a30 : PySem.W.nsIn K mainGlobals "_law_draw_sizes" = some (some (.ref f30))) (l30 : K.lookup f30 = some ⟨oc30, od30, .func (PySem.W.fnOf "_law_draw_sizes" "_law_draw_sizes" (defArgs s__law_draw_sizes) (defBody s__law_draw_sizes) (defScope s__law_draw_sizes) .none kV30 dc30 pm30 an30 cd30 ct30), sl30⟩) (c30 : PySem.W.codeIn K cd30 "_law_draw_sizes" = true) (k30 : PySem.W.keepIn K (.ref f30) = true)
    (a31 : PySem.W.nsIn K mainGlobals "_law_draw_deal" = some (some (.ref f31))) (l31 : K.lookup f31 = some ⟨oc31, od31, .func (PySem.W.fnOf "_law_draw_deal" "_law_draw_deal" (defArgs s__law_draw_deal) (defBody s__law_draw_deal) (defScope s__law_draw_deal) .none kV31 dc31 pm31 an31 cd31 ct31), sl31⟩) (c31 : PySem.W.codeIn K cd31 "_law_draw_deal" = true) (k31 : PySem.W.keepIn K (.ref f31) = true)
    (a32 : PySem.W.nsIn K mainGlobals "_law_part" = some (some (.ref f32))) (l32 : K.lookup f32 = some ⟨oc32, od32, .func (PySem.W.fnOf "_law_part" "_law_part" (defArgs s__law_part) (defBody s__law_part) (defScope s__law_part) .none kV32 dc32 pm32 an32 cd32 ct32), sl32⟩) (c32 : PySem.W.codeIn K cd32 "_law_part" = true) (k32 : PySem.W.keepIn K (.ref f32) = true)
    (a33 : PySem.W.nsIn K mainGlobals "_law_is_dealing" = some (some (.ref f33))) (l33 : K.lookup f33 = some ⟨oc33, od33, .func (PySem.W.fnOf "_law_is_dealing" "_law_is_dealing" (defArgs s__law_is_dealing) (defBody s__law_is_dealing) (defScope s__law_is_dealing) .none kV33 dc33 pm33 an33 cd33 ct33), sl33⟩) (c33 : PySem.W.codeIn K cd33 "_law_is_dealing" = true) (k33 : PySem.W.keepIn K (.ref f33) = true)
    (a34 : PySem.W.nsIn K mainGlobals "_law_is_parts" = some (some (.ref f34))) (l34 : K.lookup f34 = some ⟨oc34, od34, .func (PySem.W.fnOf "_law_is_parts" "_law_is_parts" (defArgs s__law_is_parts) (defBody s__law_is_parts) (defScope s__law_is_parts) .none kV34 dc34 pm34 an34 cd34 ct34), sl34⟩) (c34 : PySem.W.codeIn K cd34 "_law_is_parts" = true) (k34 : PySem.W.keepIn K (.ref f34) = true)
    (a35 : PySem.W.nsIn K mainGlobals "_law_dealings" = some (some (.ref f35))) (l35 : K.lookup f35 = some ⟨oc35, od35, .func (PySem.W.fnOf "_law_dealings" "_law_dealings" (defArgs s__law_dealings) (defBody s__law_dealings) (defScope s__law_dealings) .none kV35 dc35 pm35 an35 cd35 ct35), sl35⟩) (c35 : PySem.W.codeIn K cd35 "_law_dealings" = true) (k35 : PySem.W.keepIn K (.ref f35) = true)
    (a36 : PySem.W.nsIn K mainGlobals "_law_all_parts" = some (some (.ref f36))) (l36 : K.lookup f36 = some ⟨oc36, od36, .func (PySem.W.fnOf "_law_all_parts" "_law_all_parts" (defArgs s__law_all_parts) (defBody s__law_all_parts) (defScope s__law_all_parts) .none kV36 dc36 pm36 an36 cd36 ct36), sl36⟩) (c36 : PySem.W.codeIn K cd36 "_law_all_parts" = true) (k36 : PySem.W.keepIn K (.ref f36) = true)
    (a37 : PySem.W.nsIn K mainGlobals "_law_put" = some (some (.ref f37))) (l37 : K.lookup f37 = some ⟨oc37, od37, .func (PySem.W.fnOf "_law_put" "_law_put" (defArgs s__law_put) (defBody s__law_put) (defScope s__law_put) .none kV37 dc37 pm37 an37 cd37 ct37), sl37⟩) (c37 : PySem.W.codeIn K cd37 "_law_put" = true) (k37 : PySem.W.keepIn K (.ref f37) = true)
    (a38 : PySem.W.nsIn K mainGlobals "law" = some (some (.ref f38))) (l38 : K.lookup f38 = some ⟨oc38, od38, .func (PySem.W.fnOf "law" "law" (defArgs s_law) (defBody s_law) (defScope s_law) .none kV38 dc38 pm38 an38 cd38 ct38), sl38⟩) (c38 : PySem.W.codeIn K cd38 "law" = true) (k38 : PySem.W.keepIn K (.ref f38) = true)
    (z0 : PySem.W.nsIn K mainGlobals "all" = some none)
    (z1 : PySem.W.nsIn K mainGlobals "bool" = some none)
    (z2 : PySem.W.nsIn K mainGlobals "enumerate" = some none)
    (z3 : PySem.W.nsIn K mainGlobals "int" = some none)
    (z4 : PySem.W.nsIn K mainGlobals "isinstance" = some none)
    (z5 : PySem.W.nsIn K mainGlobals "len" = some none)
    (z6 : PySem.W.nsIn K mainGlobals "list" = some none)
    (z7 : PySem.W.nsIn K mainGlobals "max" = some none)
    (z8 : PySem.W.nsIn K mainGlobals "min" = some none)
    (z9 : PySem.W.nsIn K mainGlobals "range" = some none)
    (z10 : PySem.W.nsIn K mainGlobals "repr" = some none)
    (z11 : PySem.W.nsIn K mainGlobals "set" = some none)
    (z12 : PySem.W.nsIn K mainGlobals "sorted" = some none)
    (z13 : PySem.W.nsIn K mainGlobals "str" = some none)
    (z14 : PySem.W.nsIn K mainGlobals "tuple" = some none)
    (z15 : PySem.W.nsIn K mainGlobals "zip" = some none)
    : ∃ fd : FuncData, (∀ (s : Shared) (v : Value), BindsTo s fd ⟨[v], []⟩ [("script", v)]) ∧ ∀ base : Heap, K.In base → base.Ns mainGlobals mg → FnG l.prog w K mg base CX0 200 fa fd ["script"] (spLaw K) := by
  have e := hfa.symm.trans (PySem.W.mg_of X G a38)
  cases e
  refine ⟨PySem.W.fnOf "law" "law" (defArgs s_law) (defBody s_law) (defScope s_law) .none kV38 dc38 pm38 an38 cd38 ct38, fun s v => .of_eq rfl, fun base _ _ => ?_⟩
  exact ok_law (T := { 
    f_is_integer := _, fd_is_integer := _, F_is_integer := fun_mk (st := s_is_integer) l1 c1 k1, m_is_integer := PySem.W.mg_of X G a1,
    f_is_place := _, fd_is_place := _, F_is_place := fun_mk (st := s_is_place) l2 c2 k2, m_is_place := PySem.W.mg_of X G a2,
    f_every_place := _, fd_every_place := _, F_every_place := fun_mk (st := s_every_place) l3 c3 k3, m_every_place := PySem.W.mg_of X G a3,
    f_are_tied := _, fd_are_tied := _, F_are_tied := fun_mk (st := s_are_tied) l4 c4 k4, m_are_tied := PySem.W.mg_of X G a4,
    f_neighbours := _, fd_neighbours := _, F_neighbours := fun_mk (st := s_neighbours) l5 c5 k5, m_neighbours := PySem.W.mg_of X G a5,
    f_piece_of := _, fd_piece_of := _, F_piece_of := fun_mk (st := s_piece_of) l6 c6 k6, m_piece_of := PySem.W.mg_of X G a6,
    f_hangs := _, fd_hangs := _, F_hangs := fun_mk (st := s_hangs) l7 c7 k7, m_hangs := PySem.W.mg_of X G a7,
    f_is_dealing := _, fd_is_dealing := _, F_is_dealing := fun_mk (st := s_is_dealing) l9 c9 k9, m_is_dealing := PySem.W.mg_of X G a9,
    f_part_of := _, fd_part_of := _, F_part_of := fun_mk (st := s_part_of) l10 c10 k10, m_part_of := PySem.W.mg_of X G a10,
    f_is_parts := _, fd_is_parts := _, F_is_parts := fun_mk (st := s_is_parts) l11 c11 k11, m_is_parts := PySem.W.mg_of X G a11,
    f_border := _, fd_border := _, F_border := fun_mk (st := s_border) l12 c12 k12, m_border := PySem.W.mg_of X G a12,
    f__law_open := _, fd__law_open := _, F__law_open := fun_mk (st := s__law_open) l14 c14 k14, m__law_open := PySem.W.mg_of X G a14,
    f__law_spread := _, fd__law_spread := _, F__law_spread := fun_mk (st := s__law_spread) l15 c15 k15, m__law_spread := PySem.W.mg_of X G a15,
    f__law_take := _, fd__law_take := _, F__law_take := fun_mk (st := s__law_take) l16 c16 k16, m__law_take := PySem.W.mg_of X G a16,
    f__law_same := _, fd__law_same := _, F__law_same := fun_mk (st := s__law_same) l17 c17 k17, m__law_same := PySem.W.mg_of X G a17,
    f__law_one_of := _, fd__law_one_of := _, F__law_one_of := fun_mk (st := s__law_one_of) l18 c18 k18, m__law_one_of := PySem.W.mg_of X G a18,
    f__law_odd := _, fd__law_odd := _, F__law_odd := fun_mk (st := s__law_odd) l19 c19 k19, m__law_odd := PySem.W.mg_of X G a19,
    f__law_bent := _, fd__law_bent := _, F__law_bent := fun_mk (st := s__law_bent) l20 c20 k20, m__law_bent := PySem.W.mg_of X G a20,
    f__law_is_whole := _, fd__law_is_whole := _, F__law_is_whole := fun_mk (st := s__law_is_whole) l21 c21 k21, m__law_is_whole := PySem.W.mg_of X G a21,
    f__law_draw_order := _, fd__law_draw_order := _, F__law_draw_order := fun_mk (st := s__law_draw_order) l22 c22 k22, m__law_draw_order := PySem.W.mg_of X G a22,
    f__law_web := _, fd__law_web := _, F__law_web := fun_mk (st := s__law_web) l23 c23 k23, m__law_web := PySem.W.mg_of X G a23,
    f__law_draw_web := _, fd__law_draw_web := _, F__law_draw_web := fun_mk (st := s__law_draw_web) l24 c24 k24, m__law_draw_web := PySem.W.mg_of X G a24,
    f__law_near := _, fd__law_near := _, F__law_near := fun_mk (st := s__law_near) l25 c25 k25, m__law_near := PySem.W.mg_of X G a25,
    f__law_piece := _, fd__law_piece := _, F__law_piece := fun_mk (st := s__law_piece) l26 c26 k26, m__law_piece := PySem.W.mg_of X G a26,
    f__law_pieces := _, fd__law_pieces := _, F__law_pieces := fun_mk (st := s__law_pieces) l27 c27 k27, m__law_pieces := PySem.W.mg_of X G a27,
    f__law_hangs := _, fd__law_hangs := _, F__law_hangs := fun_mk (st := s__law_hangs) l28 c28 k28, m__law_hangs := PySem.W.mg_of X G a28,
    f__law_draw_roots := _, fd__law_draw_roots := _, F__law_draw_roots := fun_mk (st := s__law_draw_roots) l29 c29 k29, m__law_draw_roots := PySem.W.mg_of X G a29,
    f__law_draw_sizes := _, fd__law_draw_sizes := _, F__law_draw_sizes := fun_mk (st := s__law_draw_sizes) l30 c30 k30, m__law_draw_sizes := PySem.W.mg_of X G a30,
    f__law_draw_deal := _, fd__law_draw_deal := _, F__law_draw_deal := fun_mk (st := s__law_draw_deal) l31 c31 k31, m__law_draw_deal := PySem.W.mg_of X G a31,
    f__law_part := _, fd__law_part := _, F__law_part := fun_mk (st := s__law_part) l32 c32 k32, m__law_part := PySem.W.mg_of X G a32,
    f__law_is_dealing := _, fd__law_is_dealing := _, F__law_is_dealing := fun_mk (st := s__law_is_dealing) l33 c33 k33, m__law_is_dealing := PySem.W.mg_of X G a33,
    f__law_is_parts := _, fd__law_is_parts := _, F__law_is_parts := fun_mk (st := s__law_is_parts) l34 c34 k34, m__law_is_parts := PySem.W.mg_of X G a34,
    f__law_dealings := _, fd__law_dealings := _, F__law_dealings := fun_mk (st := s__law_dealings) l35 c35 k35, m__law_dealings := PySem.W.mg_of X G a35,
    f__law_all_parts := _, fd__law_all_parts := _, F__law_all_parts := fun_mk (st := s__law_all_parts) l36 c36 k36, m__law_all_parts := PySem.W.mg_of X G a36,
    f__law_put := _, fd__law_put := _, F__law_put := fun_mk (st := s__law_put) l37 c37 k37, m__law_put := PySem.W.mg_of X G a37,
    f_law := _, fd_law := _, F_law := fun_mk (st := s_law) l38 c38 k38, m_law := PySem.W.mg_of X G a38,
    z_all := PySem.W.mg_none_of X G z0,
    z_bool := PySem.W.mg_none_of X G z1,
    z_enumerate := PySem.W.mg_none_of X G z2,
    z_int := PySem.W.mg_none_of X G z3,
    z_isinstance := PySem.W.mg_none_of X G z4,
    z_len := PySem.W.mg_none_of X G z5,
    z_list := PySem.W.mg_none_of X G z6,
    z_max := PySem.W.mg_none_of X G z7,
    z_min := PySem.W.mg_none_of X G z8,
    z_range := PySem.W.mg_none_of X G z9,
    z_repr := PySem.W.mg_none_of X G z10,
    z_set := PySem.W.mg_none_of X G z11,
    z_sorted := PySem.W.mg_none_of X G z12,
    z_str := PySem.W.mg_none_of X G z13,
    z_tuple := PySem.W.mg_none_of X G z14,
    z_zip := PySem.W.mg_none_of X G z15 }) law_holds
end Dl
open PySem PySem.W PyProof.Rows
set_option maxRecDepth 100000 in
set_option maxHeartbeats 0 in
theorem PySem.Challenge.cw_rootparts_k04_parts_recognized_holds : PySem.Challenge.rw_rootparts_k04_parts_recognized.Holds := by
  w_on; o_law; k_head; (case hw => w_witness2)
  k_fill
  refine Dl.walkG (l := PySem.Challenge.rw_rootparts_k04_parts_recognized) (k := 200) rfl rfl ⟨rfl, by decide, by decide⟩ (fun w h Y => PySem.W.kIn_of Y) ?F
  case F =>
    intro w mg fa h KX G hmg
    refine' Dl.all_mk KX G hmg ?a1 ?l1 ?c1 ?k1 ?a2 ?l2 ?c2 ?k2 ?a3 ?l3 ?c3 ?k3 ?a4 ?l4 ?c4 ?k4 ?a5 ?l5 ?c5 ?k5 ?a6 ?l6 ?c6 ?k6 ?a7 ?l7 ?c7 ?k7 ?a9 ?l9 ?c9 ?k9 ?a10 ?l10 ?c10 ?k10 ?a11 ?l11 ?c11 ?k11 ?a12 ?l12 ?c12 ?k12 ?a14 ?l14 ?c14 ?k14 ?a15 ?l15 ?c15 ?k15 ?a16 ?l16 ?c16 ?k16 ?a17 ?l17 ?c17 ?k17 ?a18 ?l18 ?c18 ?k18 ?a19 ?l19 ?c19 ?k19 ?a20 ?l20 ?c20 ?k20 ?a21 ?l21 ?c21 ?k21 ?a22 ?l22 ?c22 ?k22 ?a23 ?l23 ?c23 ?k23 ?a24 ?l24 ?c24 ?k24 ?a25 ?l25 ?c25 ?k25 ?a26 ?l26 ?c26 ?k26 ?a27 ?l27 ?c27 ?k27 ?a28 ?l28 ?c28 ?k28 ?a29 ?l29 ?c29 ?k29 ?a30 ?l30 ?c30 ?k30 ?a31 ?l31 ?c31 ?k31 ?a32 ?l32 ?c32 ?k32 ?a33 ?l33 ?c33 ?k33 ?a34 ?l34 ?c34 ?k34 ?a35 ?l35 ?c35 ?k35 ?a36 ?l36 ?c36 ?k36 ?a37 ?l37 ?c37 ?k37 ?a38 ?l38 ?c38 ?k38 ?z0 ?z1 ?z2 ?z3 ?z4 ?z5 ?z6 ?z7 ?z8 ?z9 ?z10 ?z11 ?z12 ?z13 ?z14 ?z15 
    (case a1 => k_is); (case l1 => k_is); (case c1 => k_is); (case k1 => k_is)
    (case a2 => k_is); (case l2 => k_is); (case c2 => k_is); (case k2 => k_is)
    (case a3 => k_is); (case l3 => k_is); (case c3 => k_is); (case k3 => k_is)
    (case a4 => k_is); (case l4 => k_is); (case c4 => k_is); (case k4 => k_is)
    (case a5 => k_is); (case l5 => k_is); (case c5 => k_is); (case k5 => k_is)
    (case a6 => k_is); (case l6 => k_is); (case c6 => k_is); (case k6 => k_is)
    (case a7 => k_is); (case l7 => k_is); (case c7 => k_is); (case k7 => k_is)
    (case a9 => k_is); (case l9 => k_is); (case c9 => k_is); (case k9 => k_is)
    (case a10 => k_is); (case l10 => k_is); (case c10 => k_is); (case k10 => k_is)
    (case a11 => k_is); (case l11 => k_is); (case c11 => k_is); (case k11 => k_is)
    (case a12 => k_is); (case l12 => k_is); (case c12 => k_is); (case k12 => k_is)
    (case a14 => k_is); (case l14 => k_is); (case c14 => k_is); (case k14 => k_is)
    (case a15 => k_is); (case l15 => k_is); (case c15 => k_is); (case k15 => k_is)
    (case a16 => k_is); (case l16 => k_is); (case c16 => k_is); (case k16 => k_is)
    (case a17 => k_is); (case l17 => k_is); (case c17 => k_is); (case k17 => k_is)
    (case a18 => k_is); (case l18 => k_is); (case c18 => k_is); (case k18 => k_is)
    (case a19 => k_is); (case l19 => k_is); (case c19 => k_is); (case k19 => k_is)
    (case a20 => k_is); (case l20 => k_is); (case c20 => k_is); (case k20 => k_is)
    (case a21 => k_is); (case l21 => k_is); (case c21 => k_is); (case k21 => k_is)
    (case a22 => k_is); (case l22 => k_is); (case c22 => k_is); (case k22 => k_is)
    (case a23 => k_is); (case l23 => k_is); (case c23 => k_is); (case k23 => k_is)
    (case a24 => k_is); (case l24 => k_is); (case c24 => k_is); (case k24 => k_is)
    (case a25 => k_is); (case l25 => k_is); (case c25 => k_is); (case k25 => k_is)
    (case a26 => k_is); (case l26 => k_is); (case c26 => k_is); (case k26 => k_is)
    (case a27 => k_is); (case l27 => k_is); (case c27 => k_is); (case k27 => k_is)
    (case a28 => k_is); (case l28 => k_is); (case c28 => k_is); (case k28 => k_is)
    (case a29 => k_is); (case l29 => k_is); (case c29 => k_is); (case k29 => k_is)
    (case a30 => k_is); (case l30 => k_is); (case c30 => k_is); (case k30 => k_is)
    (case a31 => k_is); (case l31 => k_is); (case c31 => k_is); (case k31 => k_is)
    (case a32 => k_is); (case l32 => k_is); (case c32 => k_is); (case k32 => k_is)
    (case a33 => k_is); (case l33 => k_is); (case c33 => k_is); (case k33 => k_is)
    (case a34 => k_is); (case l34 => k_is); (case c34 => k_is); (case k34 => k_is)
    (case a35 => k_is); (case l35 => k_is); (case c35 => k_is); (case k35 => k_is)
    (case a36 => k_is); (case l36 => k_is); (case c36 => k_is); (case k36 => k_is)
    (case a37 => k_is); (case l37 => k_is); (case c37 => k_is); (case k37 => k_is)
    (case a38 => k_is); (case l38 => k_is); (case c38 => k_is); (case k38 => k_is)
    (case z0 => k_is)
    (case z1 => k_is)
    (case z2 => k_is)
    (case z3 => k_is)
    (case z4 => k_is)
    (case z5 => k_is)
    (case z6 => k_is)
    (case z7 => k_is)
    (case z8 => k_is)
    (case z9 => k_is)
    (case z10 => k_is)
    (case z11 => k_is)
    (case z12 => k_is)
    (case z13 => k_is)
    (case z14 => k_is)
    (case z15 => k_is)

