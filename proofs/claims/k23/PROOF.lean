import PyProof.Rows.All
import Wide.All
import OpenK.AllK
import Wide.FinOn
import HandS.ForMost
import HandS.Walk
import HandS.Conv
import HandS.TupAny
import HandS.Zip
import HandS.IsInst
import HandS.Wide
import KE.DataEq
import HandS.Style
import HandS.Ends
import KE.SortUse
import KE.DataMinMax
import KE.SortData
import HandS.TupMul
import HandS.Deep
import KE.SortCalls
import PySem.Challenge.RW_rootparts_k23_weights_along_orders
set_option Elab.async false
set_option linter.all false
set_option autoImplicit false
set_option maxRecDepth 100000
namespace Dl
open PySem L2

abbrev D := PyData

/-! ### what stands for a datum -/
mutual
inductive Rp (G : Hp) : V → D → Prop
  | non : Rp G .non .none
  | bl (b : Bool) : Rp G (.bl b) (.bool b)
  | int (i : Int) : Rp G (.int i) (.int i)
  | str (z : Str) : Rp G (.str z) (.str z)
  | lst {p : Addr} {vs : List V} {ds : List D} : G p = some (.lst vs) → RpL G vs ds → Rp G (.ref p) (.list ds)
  | tup {p : Addr} {vs : List V} {ds : List D} : G p = some (.tup vs) → RpL G vs ds → Rp G (.ref p) (.tuple ds)
inductive RpL (G : Hp) : List V → List D → Prop
  | nil : RpL G [] []
  | cons {v : V} {vs : List V} {d : D} {ds : List D} : Rp G v d → RpL G vs ds → RpL G (v :: vs) (d :: ds)
end
mutual
theorem Rp.mono {G G' : Hp} (e : Same G G') : ∀ {d : D} {v : V}, Rp G v d → Rp G' v d
  | .none, _, h => by cases h; exact .non
  | .bool _, _, h => by cases h; exact .bl _
  | .int _, _, h => by cases h; exact .int _
  | .str _, _, h => by cases h; exact .str _
  | .list _, _, h => by
    cases h with
    | lst h r => exact .lst (e _ _ h) (RpL.mono e r)
  | .tuple _, _, h => by
    cases h with
    | tup h r => exact .tup (e _ _ h) (RpL.mono e r)
  | .dict _, _, h => by cases h
theorem RpL.mono {G G' : Hp} (e : Same G G') : ∀ {ds : List D} {vs : List V}, RpL G vs ds → RpL G' vs ds
  | [], _, h => by cases h; exact .nil
  | _ :: _, _, h => by
    cases h with
    | cons a b => exact .cons (Rp.mono e a) (RpL.mono e b)
end
mutual
def imm : D → Bool
  | .list _ => false
  | .dict _ => false
  | .tuple ds => immL ds
  | _ => true
def immL : List D → Bool
  | [] => true
  | d :: ds => imm d && immL ds
end
theorem immL_iff : ∀ {ds : List D}, immL ds = true ↔ ∀ d ∈ ds, imm d = true
  | [] => by simp [immL]
  | d :: ds => by simp [immL, immL_iff (ds := ds)]
mutual
theorem Rp.keep {G G' : Hp} (e : ∀ p vs, G p = some (.tup vs) → G' p = some (.tup vs)) : ∀ {d : D} {v : V}, imm d = true → Rp G v d → Rp G' v d
  | .none, _, _, h => by cases h; exact .non
  | .bool _, _, _, h => by cases h; exact .bl _
  | .int _, _, _, h => by cases h; exact .int _
  | .str _, _, _, h => by cases h; exact .str _
  | .list _, _, i, h => by simp [imm] at i
  | .tuple _, _, i, h => by
    cases h with
    | tup h r => exact .tup (e _ _ h) (RpL.keep e (by simpa [imm] using i) r)
  | .dict _, _, _, h => by cases h
theorem RpL.keep {G G' : Hp} (e : ∀ p vs, G p = some (.tup vs) → G' p = some (.tup vs)) : ∀ {ds : List D} {vs : List V}, immL ds = true → RpL G vs ds → RpL G' vs ds
  | [], _, _, h => by cases h; exact .nil
  | _ :: _, _, i, h => by
    cases h with
    | cons a b =>
      simp only [immL, Bool.and_eq_true] at i
      exact .cons (Rp.keep e i.1 a) (RpL.keep e i.2 b)
end
theorem RpL.length {G : Hp} : ∀ {ds : List D} {vs : List V}, RpL G vs ds → vs.length = ds.length
  | [], _, h => by cases h; rfl
  | _ :: _, _, h => by
    cases h with
    | cons _ b => simp [RpL.length b]
theorem RpL.get {G : Hp} : ∀ {ds : List D} {vs : List V} {i : Nat} {d : D}, RpL G vs ds → ds[i]? = some d → ∃ v, vs[i]? = some v ∧ Rp G v d
  | [], _, _, _, h, e => by simp at e
  | _ :: _, _, 0, _, h, e => by
    cases h with
    | cons a b => simp at e; subst e; exact ⟨_, rfl, a⟩
  | _ :: _, _, i + 1, _, h, e => by
    cases h with
    | cons a b =>
      obtain ⟨v, h1, h2⟩ := RpL.get (i := i) b (by simpa using e)
      exact ⟨v, by simpa using h1, h2⟩
theorem RpL.getV {G : Hp} : ∀ {ds : List D} {vs : List V} {i : Nat} {v : V}, RpL G vs ds → vs[i]? = some v → ∃ d, ds[i]? = some d ∧ Rp G v d
  | [], _, _, _, h, e => by cases h; simp at e
  | _ :: _, _, 0, _, h, e => by
    cases h with
    | cons a b => simp at e; subst e; exact ⟨_, rfl, a⟩
  | _ :: _, _, i + 1, _, h, e => by
    cases h with
    | cons a b =>
      obtain ⟨v, h1, h2⟩ := RpL.getV (i := i) b (by simpa using e)
      exact ⟨v, by simpa using h1, h2⟩
theorem RpL.append {G : Hp} : ∀ {ds es : List D} {vs ws : List V}, RpL G vs ds → RpL G ws es → RpL G (vs ++ ws) (ds ++ es)
  | [], _, _, _, h, k => by cases h; exact k
  | _ :: _, _, _, _, h, k => by
    cases h with
    | cons a b => exact .cons a (RpL.append b k)
theorem RpL.take {G : Hp} : ∀ {ds : List D} {vs : List V} (n : Nat), RpL G vs ds → RpL G (vs.take n) (ds.take n)
  | _, _, 0, _ => .nil
  | [], _, _ + 1, h => by cases h; exact .nil
  | _ :: _, _, n + 1, h => by
    cases h with
    | cons a b => exact .cons a (RpL.take n b)
theorem RpL.drop {G : Hp} : ∀ {ds : List D} {vs : List V} (n : Nat), RpL G vs ds → RpL G (vs.drop n) (ds.drop n)
  | _, _, 0, h => h
  | [], _, _ + 1, h => by cases h; exact .nil
  | _ :: _, _, n + 1, h => by
    cases h with
    | cons a b => exact RpL.drop n b
theorem RpL.set {G : Hp} : ∀ {ds : List D} {vs : List V} (n : Nat) {d : D} {v : V}, RpL G vs ds → Rp G v d → RpL G (vs.set n v) (ds.set n d)
  | [], _, _, _, _, h, _ => by cases h; exact .nil
  | _ :: _, _, 0, _, _, h, k => by
    cases h with
    | cons a b => exact .cons k b
  | _ :: _, _, n + 1, _, _, h, k => by
    cases h with
    | cons a b => exact .cons a (RpL.set n b k)
theorem RpL.eraseIdx {G : Hp} : ∀ {ds : List D} {vs : List V} (n : Nat), RpL G vs ds → RpL G (vs.eraseIdx n) (ds.eraseIdx n)
  | [], _, _, h => by cases h; exact .nil
  | _ :: _, _, 0, h => by
    cases h with
    | cons a b => exact b
  | _ :: _, _, n + 1, h => by
    cases h with
    | cons a b => exact .cons a (RpL.eraseIdx n b)
theorem RpL.ints {G : Hp} : ∀ {ns : List Int} {vs : List V}, RpL G vs (ns.map PyData.int) → vs = ns.map V.int
  | [], _, h => by cases h; rfl
  | n :: ns, _, h => by
    cases h with
    | cons a b => cases a; rw [RpL.ints b]; rfl
theorem RpL.ofInts {G : Hp} : ∀ {ns : List Int}, RpL G (ns.map V.int) (ns.map PyData.int)
  | [] => .nil
  | _ :: _ => .cons (.int _) RpL.ofInts

/-! ### cells, resources, growth -/
inductive Cell where
  | no
  | dat (d : D)
  | own (ds : List D)
  | raw (v : V)

/-- what else a def may turn: a pen. vol: its own addresses; S: what stays known; Dy: what it is after at most m draws -/
structure Res where
  vol : Addr → Prop
  S : Hp → Prop
  Dy : Hp → Nat → Prop
  sm : ∀ {G G' : Hp}, Same G G' → S G → S G'
  dm : ∀ {H H' : Hp} {m : Nat}, (∀ a, vol a → H' a = H a) → Dy H m → Dy H' m
  /-- the heap at the def's entry -/
  ent : Hp
def Res.pure (ent : Hp) : Res := ⟨fun _ => False, fun _ => True, fun _ _ => True, fun _ _ => trivial, fun _ _ => trivial, ent⟩

structure Grow (vol : Addr → Prop) (G H G' H' : Hp) : Prop where
  gg : Same G G'
  hh : ∀ a o, ¬ vol a → H a = some o → H' a = some o
  new : ∀ a, G a = none → H a ≠ none → G' a = none
theorem Grow.refl (vol : Addr → Prop) (G H : Hp) : Grow vol G H G H := ⟨Same.refl _, fun _ _ _ h => h, fun _ h _ => h⟩
theorem Grow.trans {vol : Addr → Prop} {G H G1 H1 G2 H2 : Hp} (a : Grow vol G H G1 H1) (hv : ∀ x, vol x → H1 x ≠ none) (b : Grow vol G1 H1 G2 H2) : Grow vol G H G2 H2 :=
  ⟨a.gg.trans b.gg, fun x o n h => b.hh x o n (a.hh x o n h), fun x g h => b.new x (a.new x g h) (by
    by_cases v : vol x
    · exact hv x v
    · cases e : H x with
      | none => exact absurd e h
      | some o => rw [a.hh x o v e]; exact fun z => by cases z)⟩

def CellR (R : Res) (G H : Hp) (o : Option (Option V)) : Cell → Prop
  | .no => True
  | .dat d => ∃ v, o = some (some v) ∧ Rp G v d
  | .raw v => o = some (some v)
  | .own ds => ∃ l vs, o = some (some (.ref l)) ∧ G l = none ∧ ¬ R.vol l ∧ R.ent l = none ∧ H l = some (.lst vs) ∧ RpL G vs ds

/-- the heaps are in order -/
structure Sat (R : Res) (G H : Hp) (m : Nat) : Prop where
  gh : Same G H
  vg : ∀ a, R.vol a → G a = none
  vh : ∀ a, R.vol a → H a ≠ none
  js : R.S G
  jd : R.Dy H m
  en : ∀ p, H p = none → R.ent p = none
/-- the slots σ hold the cells ρ -/
structure Sit (R : Res) (σ : L2.St) (ρ : List Cell) (G H : Hp) (m : Nat) : Prop extends Sat R G H m where
  len : σ.length = ρ.length
  cell : ∀ (i : Nat) (c : Cell), ρ[i]? = some c → CellR R G H σ[i]? c
  apart : ∀ (i j : Nat) (ds es : List D) (l : Addr), ρ[i]? = some (.own ds) → ρ[j]? = some (.own es) → σ[i]? = some (some (.ref l)) → σ[j]? = some (some (.ref l)) → i = j

section
variable {R : Res} {σ : L2.St} {ρ : List Cell} {G H G' H' : Hp} {m m' : Nat}
theorem CellR.grow {o : Option (Option V)} {c : Cell} (g : Grow R.vol G H G' H') (h : CellR R G H o c) : CellR R G' H' o c := by
  cases c with
  | no => trivial
  | dat d => obtain ⟨v, e, r⟩ := h; exact ⟨v, e, r.mono g.gg⟩
  | raw v => exact h
  | own ds =>
    obtain ⟨l, vs, e, n, nv, en, hl, r⟩ := h
    exact ⟨l, vs, e, g.new l n (by rw [hl]; exact fun z => by cases z), nv, en, g.hh l _ nv hl, r.mono g.gg⟩
theorem free_of {vol : Addr → Prop} {G H G' H' : Hp} {p : Addr} (g : Grow vol G H G' H') (hv : ∀ a, vol a → H' a ≠ none) (hp : H' p = none) : H p = none := by
  cases e : H p with
  | none => rfl
  | some o =>
    by_cases v : vol p
    · exact absurd hp (hv p v)
    · rw [g.hh p o v e] at hp; cases hp
theorem Sat.grow (S : Sat R G H m) (g : Grow R.vol G H G' H') (gh : Same G' H') (vh : ∀ a, R.vol a → H' a ≠ none) (jd : R.Dy H' m') : Sat R G' H' m' :=
  ⟨gh, fun a v => g.new a (S.vg a v) (S.vh a v), vh, R.sm g.gg S.js, jd, fun p h => S.en p (free_of g vh h)⟩
theorem Sit.grow (S : Sit R σ ρ G H m) (g : Grow R.vol G H G' H') (gh : Same G' H') (vh : ∀ a, R.vol a → H' a ≠ none) (jd : R.Dy H' m') : Sit R σ ρ G' H' m' :=
  ⟨S.toSat.grow g gh vh jd, S.len, fun i c h => (S.cell i c h).grow g, S.apart⟩
/-- the volatile stand as they stood -/
theorem Sit.growS (S : Sit R σ ρ G H m) (g : Grow (fun _ => False) G H G' H') (gh : Same G' H') : Sit R σ ρ G' H' m ∧ Grow R.vol G H G' H' := by
  have hs : ∀ a o, H a = some o → H' a = some o := fun a o h => g.hh a o (fun z => z) h
  have e : ∀ a, R.vol a → H' a = H a := fun a v => by
    cases q : H a with
    | none => exact absurd q (S.vh a v)
    | some o => exact hs a o q
  have g' : Grow R.vol G H G' H' := ⟨g.gg, fun a o _ h => hs a o h, g.new⟩
  exact ⟨S.grow g' gh (fun a v => by rw [e a v]; exact S.vh a v) (R.dm e S.jd), g'⟩
/-- a new object that all may know -/
theorem grow_new {p : Addr} (gh : Same G H) (hp : H p = none) (o : HO) : Grow (fun _ => False) G H (upd G p o) (upd H p o) ∧ Same (upd G p o) (upd H p o) := by
  have gp : G p = none := gh.free hp
  refine ⟨⟨fun a u h => by rw [upd_ne (ne_of_none h gp)]; exact h, fun a u _ h => by rw [upd_ne (ne_of_none h hp)]; exact h, fun a g h => ?_⟩, fun a u h => ?_⟩
  · by_cases e : a = p
    · subst e; exact absurd hp h
    · rw [upd_ne e]; exact g
  · by_cases e : a = p
    · subst e; rw [upd_same] at h ⊢; exact h
    · rw [upd_ne e] at h ⊢; exact gh a u h
/-- a new object of one's own -/
theorem grow_own {p : Addr} (gh : Same G H) (hp : H p = none) (o : HO) : Grow (fun _ => False) G H G (upd H p o) ∧ Same G (upd H p o) := by
  have gp : G p = none := gh.free hp
  exact ⟨⟨Same.refl _, fun a u _ h => by rw [upd_ne (ne_of_none h hp)]; exact h, fun a g _ => g⟩, fun a u h => by rw [upd_ne (ne_of_none h gp)]; exact gh a u h⟩
/-- what is one's own becomes known -/
theorem grow_share {p : Addr} {o : HO} (gh : Same G H) (gp : G p = none) (hp : H p = some o) : Same G (upd G p o) ∧ Same (upd G p o) H := by
  refine ⟨fun a u h => by rw [upd_ne (ne_of_none h gp)]; exact h, fun a u h => ?_⟩
  by_cases e : a = p
  · subst e; rw [upd_same] at h; rw [hp]; exact h
  · rw [upd_ne e] at h; exact gh a u h
theorem Sit.ownT (S : Sit R σ ρ G H m) {i : Nat} {ds : List D} (h : ρ[i]? = some (.own ds)) : ∃ l vs, σ[i]? = some (some (.ref l)) ∧ G l = none ∧ ¬ R.vol l ∧ R.ent l = none ∧ H l = some (.lst vs) ∧ RpL G vs ds := S.cell i _ h
end

/-! ### meanings -/
abbrev M (α : Type) := (α → Nat → Prop) → Nat → Prop
def lift {α : Type} (o : Option α) : M α := fun q m => ∃ a, o = some a ∧ q a m
theorem lift_some {α : Type} (a : α) (q : α → Nat → Prop) (m : Nat) : lift (some a) q m = q a m := by
  apply propext
  constructor
  · rintro ⟨_, e, h⟩
    cases e
    exact h
  · exact fun h => ⟨a, rfl, h⟩
def Mb {α β : Type} (T : M α) (f : α → M β) : M β := fun q m => T (fun a m1 => f a q m1) m

/-- the reading of an expression that gives a datum -/
def tJ (R : Res) (ρ : List Cell) (T : M D) : TE := fun σ H Q => ∃ G m q, Sit R σ ρ G H m ∧ T q m ∧ ∀ v d G' H' m', Sit R σ ρ G' H' m' → Grow R.vol G H G' H' → Rp G' v d → q d m' → Q v H'
/-- .. a new list, nobody else's -/
def tL (R : Res) (ρ : List Cell) (T : M (List D)) : TE := fun σ H Q => ∃ G m q, Sit R σ ρ G H m ∧ T q m ∧ ∀ p vs ds G' H' m', Sit R σ ρ G' H' m' → Grow R.vol G H G' H' → H p = none → G' p = none → H' p = some (.lst vs) → RpL G' vs ds → q ds m' → Q (.ref p) H'
def tT (R : Res) (ρ : List Cell) (T : M Bool) : TT := fun σ H Q => ∃ G m q, Sit R σ ρ G H m ∧ T q m ∧ ∀ b G' H' m', Sit R σ ρ G' H' m' → Grow R.vol G H G' H' → q b m' → Q b H'
/-- n arguments -/
def tAs (R : Res) (ρ : List Cell) (n : Nat) (T : M (List D)) : TA := fun σ H Q => ∃ G m q, Sit R σ ρ G H m ∧ T q m ∧ ∀ vs ds G' H' m', Sit R σ ρ G' H' m' → Grow R.vol G H G' H' → RpL G' vs ds → ds.length = n → q ds m' → Q vs H'

def JM (X : Cx) (R : Res) (ρ : List Cell) (e : Expr) (T : M D) : Prop := PE X e (tJ R ρ T)
def JL (X : Cx) (R : Res) (ρ : List Cell) (e : Expr) (T : M (List D)) : Prop := PE X e (tL R ρ T)
def JT (X : Cx) (R : Res) (ρ : List Cell) (e : Expr) (T : M Bool) : Prop := PT X e (tT R ρ T)
def JA (X : Cx) (R : Res) (ρ : List Cell) (es : List Expr) (n : Nat) (T : M (List D)) : Prop := PA X es (tAs R ρ n T)

theorem PE.imp {X : Cx} {e : Expr} {t t' : TE} (h : PE X e t) (k : ∀ σ H Q, t' σ H Q → t σ H Q) : PE X e t' := ⟨fun pins s σ H Q I q => h.run pins s σ H Q I (k σ H Q q)⟩
theorem PT.imp {X : Cx} {e : Expr} {t t' : TT} (h : PT X e t) (k : ∀ σ H Q, t' σ H Q → t σ H Q) : PT X e t' := ⟨fun pins s σ H Q I q => h.run pins s σ H Q I (k σ H Q q)⟩
theorem PA.imp {X : Cx} {es : List Expr} {t t' : TA} (h : PA X es t) (k : ∀ σ H Q, t' σ H Q → t σ H Q) : PA X es t' := ⟨fun pos pins s σ H Q I q => h.run pos pins s σ H Q I (k σ H Q q)⟩

section
variable {X : Cx} {R : Res} {ρ : List Cell} {e a b : Expr} {pos : Pos}
theorem JM.imp {T T' : M D} (h : JM X R ρ e T) (k : ∀ q m, T' q m → T q m) : JM X R ρ e T' := PE.imp h fun _ _ _ ⟨G, m, q, S, t, c⟩ => ⟨G, m, q, S, k q m t, c⟩
theorem JT.imp {T T' : M Bool} (h : JT X R ρ e T) (k : ∀ q m, T' q m → T q m) : JT X R ρ e T' := PT.imp h fun _ _ _ ⟨G, m, q, S, t, c⟩ => ⟨G, m, q, S, k q m t, c⟩
theorem JL.imp {T T' : M (List D)} (h : JL X R ρ e T) (k : ∀ q m, T' q m → T q m) : JL X R ρ e T' := PE.imp h fun _ _ _ ⟨G, m, q, S, t, c⟩ => ⟨G, m, q, S, k q m t, c⟩
theorem JA.imp {es : List Expr} {n : Nat} {T T' : M (List D)} (h : JA X R ρ es n T) (k : ∀ q m, T' q m → T q m) : JA X R ρ es n T' := PA.imp h fun _ _ _ ⟨G, m, q, S, t, c⟩ => ⟨G, m, q, S, k q m t, c⟩

/-- a new list, shared -/
theorem JL.jm {T : M (List D)} (h : JL X R ρ e T) : JM X R ρ e (fun q => T fun ds => q (.list ds)) := by
  refine PE.imp h fun σ H Q ⟨G, m, q, S, t, c⟩ => ⟨G, m, _, S, t, fun p vs ds G' H' m' S' g hp gp hp' r hq => ?_⟩
  obtain ⟨g1, g2⟩ := grow_share S'.gh gp hp'
  have hvp : ¬ R.vol p := fun v => S.vh p v hp
  have g' : Grow R.vol G H (upd G' p (.lst vs)) H' := ⟨g.gg.trans g1, g.hh, fun x gx hx => by
    by_cases e : x = p
    · subst e; exact absurd hp hx
    · rw [upd_ne e]; exact g.new x gx hx⟩
  exact c _ _ _ _ m' (S.grow g' g2 S'.vh S'.jd) g' (.lst upd_same (r.mono g1)) hq

/-! ### names, constants -/
theorem jm_var (i : Nat) {x : Str} {d : D} (hρ : ρ[i]? = some (.dat d)) (hN : X.N[i]? = some x := by rfl) (hv : Vis X.env.scope x := by first | exact Or.inl rfl | exact Or.inr (Or.inl rfl) | exact Or.inr (Or.inr rfl)) (hd : (x == ("__debug__" : Str)) = false := by decide)
    (hcd : (x == ("__classdict__" : Str)) = false := by decide) : JM X R ρ (.Name x pos) (fun q m => q d m) := by
  refine PE.imp (pe_var (i := i) hN hv hd hcd) fun σ H Q ⟨G, m, q, S, t, c⟩ => ?_
  obtain ⟨v, e, r⟩ := S.cell i _ hρ
  exact ⟨v, e, c v d G H m S (Grow.refl _ _ _) r t⟩
theorem jm_int {i : Int} {j} : JM X R ρ (.Constant (.int i) j pos) (fun q m => q (.int i) m) := PE.imp pe_int fun _ H _ ⟨G, m, _, S, t, c⟩ => c _ _ G H m S (Grow.refl _ _ _) (.int i) t
theorem jm_bl {i : Bool} {j} : JM X R ρ (.Constant (.bool i) j pos) (fun q m => q (.bool i) m) := PE.imp pe_bl fun _ H _ ⟨G, m, _, S, t, c⟩ => c _ _ G H m S (Grow.refl _ _ _) (.bl i) t
theorem jm_non {j} : JM X R ρ (.Constant .none j pos) (fun q m => q .none m) := PE.imp pe_non fun _ H _ ⟨G, m, _, S, t, c⟩ => c _ _ G H m S (Grow.refl _ _ _) .non t
theorem jm_str {i : Str} {j} : JM X R ρ (.Constant (.str i) j pos) (fun q m => q (.str i) m) := PE.imp pe_str fun _ H _ ⟨G, m, _, S, t, c⟩ => c _ _ G H m S (Grow.refl _ _ _) (.str i) t

/-! ### operators by values -/
/-- an operation on values that makes no object: from data x, y (under C) the scalar g x y -/
def OpD (r : R2) (f : D → D → Option D) : Prop := ∀ (G H : Hp) (x y : V) (d e z : D) (Q : VK), Same G H → Rp G x d → Rp G y e → f d e = some z →
  (∀ v G' H', Grow (fun _ => False) G H G' H' → Same G' H' → Rp G' v z → Q v H') → r x y H Q
/-- .. in the data's own sequence -/
def op2 (f : D → D → Option D) (Ta Tb : M D) : M D := fun q m => Ta (fun x m1 => Tb (fun y m2 => lift (f x y) q m2) m1) m
theorem op_read {r : R2} {f : D → D → Option D} {Ta Tb : M D} (ho : OpD r f) (σ : L2.St) (H : Hp) (Q : VK) (h : tJ R ρ (op2 f Ta Tb) σ H Q) : tOp r (tJ R ρ Ta) (tJ R ρ Tb) σ H Q := by
  obtain ⟨G, m, q, S, t, c⟩ := h
  refine ⟨G, m, _, S, t, fun v d G1 H1 m1 S1 g1 r1 q1 => ⟨G1, m1, _, S1, q1, fun w e G2 H2 m2 S2 g2 r2 q2 => ?_⟩⟩
  obtain ⟨z, hz, q3⟩ := q2
  refine ho G2 H2 v w d e z Q S2.gh (r1.mono g2.gg) r2 hz fun u G3 H3 g3 s3 r3 => ?_
  obtain ⟨S3, g3'⟩ := S2.growS g3 s3
  exact c u z G3 H3 m2 S3 ((g1.trans S1.vh g2).trans S2.vh g3') r3 q3
theorem jm_op {op : Operator} {r : R2} {f : D → D → Option D} {Ta Tb : M D} (hr : OpR X (binaryOp op) r) (ho : OpD r f) (ha : JM X R ρ a Ta) (hb : JM X R ρ b Tb) : JM X R ρ (.BinOp a op b pos) (op2 f Ta Tb) :=
  PE.imp (pe_op hr ha hb) (op_read ho)
theorem jm_cmp {op : CmpOp} {r : R2} {f : D → D → Option D} {Ta Tb : M D} (hr : OpR X (compareOp op) r) (ho : OpD r f) (ha : JM X R ρ a Ta) (hb : JM X R ρ b Tb) (hm : behindInMarks op b = false) : JM X R ρ (.Compare a [op] [b] pos) (op2 f Ta Tb) :=
  PE.imp (pe_cmpR hr ha hb hm) (op_read ho)
theorem jm_ix {r : R2} {f : D → D → Option D} {Ta Tb : M D} (hr : IxR X r) (ho : OpD r f) (ha : JM X R ρ a Ta) (hb : JM X R ρ b Tb) (hs : PlainIx b) : JM X R ρ (.Subscript a b pos) (op2 f Ta Tb) :=
  PE.imp (pe_ix hr ha hb hs) (op_read ho)
end
end Dl

set_option Elab.async false
set_option linter.all false
set_option autoImplicit false
set_option maxRecDepth 100000
set_option maxHeartbeats 1000000
namespace Dl
open PySem L2

/-! ### data to the library's own reading of data -/
mutual
theorem Rp.dp {K : PySem.W.Frag} {G : Hp} : ∀ {d : D} {v : V}, Rp G v d → Dp K G v d
  | .none, _, h => by cases h; exact .non
  | .bool _, _, h => by cases h; exact .bl _
  | .int _, _, h => by cases h; exact .int _
  | .str _, _, h => by cases h; exact .str _
  | .list _, _, h => by
    cases h with
    | lst h r => exact .lst (SqL.of h) (RpL.dp r)
  | .tuple _, _, h => by
    cases h with
    | tup h r => exact .tup (SqT.of h) (RpL.dp r)
  | .dict _, _, h => by cases h
theorem RpL.dp {K : PySem.W.Frag} {G : Hp} : ∀ {ds : List D} {vs : List V}, RpL G vs ds → DpAll K G vs ds
  | [], _, h => by cases h; exact .nil
  | _ :: _, _, h => by
    cases h with
    | cons a b => exact .cons (Rp.dp a) (RpL.dp b)
end

/-! ### meanings of operators -/
def intsOf : List D → Option (List Int)
  | [] => some []
  | .int i :: r => (intsOf r).map (i :: ·)
  | _ => none
theorem intsOf_eq : ∀ {ds : List D} {ns : List Int}, intsOf ds = some ns → ds = ns.map PyData.int
  | [], ns, h => by cases h; rfl
  | .int i :: r, ns, h => by
    simp only [intsOf, Option.map_eq_some_iff] at h
    obtain ⟨k, h1, rfl⟩ := h
    rw [intsOf_eq h1]; rfl
  | .none :: _, _, h => by cases h
  | .bool _ :: _, _, h => by cases h
  | .str _ :: _, _, h => by cases h
  | .list _ :: _, _, h => by cases h
  | .tuple _ :: _, _, h => by cases h
  | .dict _ :: _, _, h => by cases h
theorem intsOf_map : ∀ (ns : List Int), intsOf (ns.map PyData.int) = some ns
  | [] => rfl
  | n :: r => by simp [intsOf, intsOf_map r]
def eqOk (d e : D) : Bool := d.plain && e.plain && decide (min d.depth e.depth ≤ 64)
def dAdd : D → D → Option D
  | .int i, .int j => some (.int (i + j))
  | .tuple xs, .tuple ys => if xs.length + ys.length ≤ sizeLine then some (.tuple (xs ++ ys)) else none
  | .list xs, .list ys => if xs.length + ys.length ≤ sizeLine then some (.list (xs ++ ys)) else none
  | .str x, .str y => if x.length + y.length ≤ sizeLine then some (.str (x ++ y)) else none
  | _, _ => none
def dSub : D → D → Option D
  | .int i, .int j => some (.int (i - j))
  | _, _ => none
def dMul : D → D → Option D
  | .int i, .int j => if i.natAbs.log2 + j.natAbs.log2 < 1000000 then some (.int (i * j)) else none
  | _, _ => none
def dFdiv : D → D → Option D
  | .int i, .int j => if 0 < j ∧ j.natAbs.log2 < 9000 then some (.int (i / j)) else none
  | _, _ => none
def dMod : D → D → Option D
  | .int i, .int j => if 0 < j then some (.int (i % j)) else none
  | _, _ => none
def dPow : D → D → Option D
  | .int i, .int j => if 0 ≤ j ∧ j ≤ 1000000 ∧ i.natAbs < 2 ^ 64 then some (.int (i ^ j.toNat)) else none
  | _, _ => none
def dLt : D → D → Option D
  | .int i, .int j => some (.bool (decide (i < j)))
  | .tuple xs, .tuple ys => (intsOf xs).bind fun ns => (intsOf ys).bind fun ms => some (.bool (HT.lexLt ns ms))
  | _, _ => none
def dCmp (p : Int → Int → Bool) : D → D → Option D
  | .int i, .int j => some (.bool (p i j))
  | _, _ => none
def dEq (d e : D) : Option D := if eqOk d e = true then some (.bool (PyData.eqv d e)) else none
def dNe (d e : D) : Option D := if eqOk d e = true then some (.bool (!PyData.eqv d e)) else none
def inOk (d : D) (es : List D) : Bool := PyData.plainAll es && d.plain && decide (min (PyData.depthAll es) d.depth ≤ 64)
def dIn (neg : Bool) (d : D) : D → Option D
  | .list es => if inOk d es = true then some (.bool (if neg then !(es.any fun y => PyData.eqv y d) else es.any fun y => PyData.eqv y d)) else none
  | .tuple es => if inOk d es = true then some (.bool (if neg then !(es.any fun y => PyData.eqv y d) else es.any fun y => PyData.eqv y d)) else none
  | _ => none
def dIsN (neg : Bool) (d : D) : D → Option D
  | .none => some (.bool (if neg then !(match d with | .none => true | _ => false) else (match d with | .none => true | _ => false)))
  | _ => none
def dIx : D → D → Option D
  | .list xs, .int i => atI xs i
  | .tuple xs, .int i => atI xs i
  | _, _ => none

section
variable {X : Cx}
theorem opd_scal {r : R2} {f : D → D → Option D}
    (h : ∀ (G H : Hp) (x y : V) (d e z : D), Same G H → Rp G x d → Rp G y e → f d e = some z → ∀ (Q : VK), (∀ v, Rp G v z → Q v H) → r x y H Q) : OpD r f := fun G H x y d e z Q gh rx ry hf k =>
  h G H x y d e z gh rx ry hf Q fun v r => k v G H (Grow.refl _ _ _) gh r
abbrev rAddD (K : PySem.W.Frag) : R2 := fun x y H Q => (rI0 (fun i j => V.int (i + j)) x y H Q) ∨ (rCatA K x y H Q) ∨ (rCat x y H Q) ∨ (∃ i j, x = V.str i ∧ y = V.str j ∧ i.length + j.length ≤ sizeLine ∧ Q (.str (i ++ j)) H)
theorem or_add : OpR X (binaryOp .Add) (rAddD X.K) := op_add.or (op_catA.or (op_cat.or op_add_str))
theorem od_add {K : PySem.W.Frag} : OpD (rAddD K) dAdd := by
  intro G H x y d e z Q gh rx ry hf k
  cases rx with
  | int i =>
    cases ry with
    | int j =>
      cases hf
      exact .inl ⟨i, j, rfl, rfl, k _ G H (Grow.refl _ _ _) gh (.int _)⟩
    | _ => cases hf
  | str i =>
    cases ry with
    | str j =>
      simp only [dAdd, Option.ite_none_right_eq_some, Option.some.injEq] at hf
      obtain ⟨hz, rfl⟩ := hf
      exact .inr (.inr (.inr ⟨i, j, rfl, rfl, hz, k _ G H (Grow.refl _ _ _) gh (.str _)⟩))
    | _ => cases hf
  | @tup p vs ds hp r =>
    cases ry with
    | @tup p2 vs2 ds2 hp2 r2 =>
      simp only [dAdd, Option.ite_none_right_eq_some, Option.some.injEq] at hf
      obtain ⟨hz, rfl⟩ := hf
      have l1 := r.length
      have l2 := r2.length
      refine .inr (.inl ⟨p, p2, vs, vs2, rfl, rfl, SqT.of (gh _ _ hp), SqT.of (gh _ _ hp2), by omega, fun e => ?_, fun _ e => ?_, fun _ _ q hq => ?_⟩)
      · subst e
        have : ds = [] := by cases ds with | nil => rfl | cons _ _ => simp at l1
        subst this
        exact k _ G H (Grow.refl _ _ _) gh (.tup hp2 r2)
      · subst e
        have : ds2 = [] := by cases ds2 with | nil => rfl | cons _ _ => simp at l2
        subst this
        rw [List.append_nil] at k
        exact k _ G H (Grow.refl _ _ _) gh (.tup hp r)
      · obtain ⟨g, s⟩ := grow_new gh hq (.tup (vs ++ vs2))
        exact k _ _ _ g s (.tup upd_same ((r.append r2).mono g.gg))
    | _ => cases hf
  | @lst p vs ds hp r =>
    cases ry with
    | @lst p2 vs2 ds2 hp2 r2 =>
      simp only [dAdd, Option.ite_none_right_eq_some, Option.some.injEq] at hf
      obtain ⟨hz, rfl⟩ := hf
      have l1 := r.length
      have l2 := r2.length
      refine .inr (.inr (.inl ⟨p, p2, vs, vs2, rfl, rfl, gh _ _ hp, gh _ _ hp2, by omega, fun q hq => ?_⟩))
      obtain ⟨g, s⟩ := grow_new gh hq (.lst (vs ++ vs2))
      exact k _ _ _ g s (.lst upd_same ((r.append r2).mono g.gg))
    | _ => cases hf
  | _ => cases hf
theorem od_sub : OpD (rI0 fun i j => V.int (i - j)) dSub := opd_scal fun G H x y d e z gh rx ry hf Q k => by
  cases rx with
  | int i =>
    cases ry with
    | int j => cases hf; exact ⟨i, j, rfl, rfl, k _ (.int _)⟩
    | _ => cases hf
  | _ => cases hf
theorem od_mul : OpD (rI CMulW fun i j => V.int (i * j)) dMul := opd_scal fun G H x y d e z gh rx ry hf Q k => by
  cases rx with
  | int i =>
    cases ry with
    | int j =>
      simp only [dMul, Option.ite_none_right_eq_some, Option.some.injEq] at hf
      obtain ⟨hz, rfl⟩ := hf
      exact ⟨i, j, rfl, rfl, hz, k _ (.int _)⟩
    | _ => cases hf
  | _ => cases hf
theorem od_fdiv : OpD (rI CDivW fun i j => V.int (i / j)) dFdiv := opd_scal fun G H x y d e z gh rx ry hf Q k => by
  cases rx with
  | int i =>
    cases ry with
    | int j =>
      simp only [dFdiv, Option.ite_none_right_eq_some, Option.some.injEq] at hf
      obtain ⟨hz, rfl⟩ := hf
      exact ⟨i, j, rfl, rfl, hz, k _ (.int _)⟩
    | _ => cases hf
  | _ => cases hf
theorem od_mod : OpD (rI (fun _ j => 0 < j) fun i j => V.int (i % j)) dMod := opd_scal fun G H x y d e z gh rx ry hf Q k => by
  cases rx with
  | int i =>
    cases ry with
    | int j =>
      simp only [dMod, Option.ite_none_right_eq_some, Option.some.injEq] at hf
      obtain ⟨hz, rfl⟩ := hf
      exact ⟨i, j, rfl, rfl, hz, k _ (.int _)⟩
    | _ => cases hf
  | _ => cases hf
theorem od_pow : OpD (rI CPow fun i j => V.int (i ^ j.toNat)) dPow := opd_scal fun G H x y d e z gh rx ry hf Q k => by
  cases rx with
  | int i =>
    cases ry with
    | int j =>
      simp only [dPow, Option.ite_none_right_eq_some, Option.some.injEq] at hf
      obtain ⟨hz, rfl⟩ := hf
      exact ⟨i, j, rfl, rfl, hz, k _ (.int _)⟩
    | _ => cases hf
  | _ => cases hf
theorem od_cmp {p : Int → Int → Bool} : OpD (rI0 fun i j => V.bl (p i j)) (dCmp p) := opd_scal fun G H x y d e z gh rx ry hf Q k => by
  cases rx with
  | int i =>
    cases ry with
    | int j => cases hf; exact ⟨i, j, rfl, rfl, k _ (.bl _)⟩
    | _ => cases hf
  | _ => cases hf
abbrev rLtD (K : PySem.W.Frag) : R2 := fun x y H Q => (rI0 (fun i j => V.bl (decide (i < j))) x y H Q) ∨ (rLtT K x y H Q)
theorem or_lt (hu : X.A.units < cLine) : OpR X (compareOp .Lt) (rLtD X.K) := op_lt.or (op_ltT hu)
theorem od_lt {K : PySem.W.Frag} : OpD (rLtD K) dLt := opd_scal fun G H x y d e z gh rx ry hf Q k => by
  cases rx with
  | int i =>
    cases ry with
    | int j => cases hf; exact .inl ⟨i, j, rfl, rfl, k _ (.bl _)⟩
    | _ => cases hf
  | @tup p vs ds hp r =>
    cases ry with
    | @tup p2 vs2 ds2 hp2 r2 =>
      simp only [dLt, Option.bind_eq_some_iff] at hf
      obtain ⟨ns, h1, ms, h2, h3⟩ := hf
      cases h3
      have e1 := intsOf_eq h1
      have e2 := intsOf_eq h2
      subst e1 e2
      have e1 := r.ints
      have e2 := r2.ints
      subst e1 e2
      exact .inr ⟨p, p2, ns, ms, rfl, rfl, SqT.of (gh _ _ hp), SqT.of (gh _ _ hp2), k _ (.bl _)⟩
    | _ => cases hf
  | _ => cases hf
/-- == and != of data -/
def rEq2 (neg : Bool) : R2 := fun x y H Q => ∃ d e, Rp H x d ∧ Rp H y e ∧ eqOk d e = true ∧ Q (.bl (if neg then !PyData.eqv d e else PyData.eqv d e)) H
theorem or_eq (hu : X.A.units + 64 < cLine) : OpR X (compareOp .Eq) (rEq2 false) := by
  intro pins s σ H x y v u Q I rx ry h
  obtain ⟨d, e, hd, he, ok, q⟩ := h
  simp only [eqOk, Bool.and_eq_true, decide_eq_true_eq] at ok
  obtain ⟨as, r1⟩ := Dp.reads I d x v hd.dp rx
  obtain ⟨bs, r2⟩ := Dp.reads I e y u he.dp ry
  exact SeqAt.eq_plain r1 r2 ok.1.1 ok.1.2 (by omega) ⟨.bl _, H, I, rfl, q⟩
theorem or_ne (hu : X.A.units + 64 < cLine) : OpR X (compareOp .NotEq) (rEq2 true) := by
  intro pins s σ H x y v u Q I rx ry h
  obtain ⟨d, e, hd, he, ok, q⟩ := h
  simp only [eqOk, Bool.and_eq_true, decide_eq_true_eq] at ok
  obtain ⟨as, r1⟩ := Dp.reads I d x v hd.dp rx
  obtain ⟨bs, r2⟩ := Dp.reads I e y u he.dp ry
  exact SeqAt.ne_plain r1 r2 ok.1.1 ok.1.2 (by omega) ⟨.bl _, H, I, rfl, q⟩
theorem od_eq : OpD (rEq2 false) dEq := opd_scal fun G H x y d e z gh rx ry hf Q k => by
  simp only [dEq, Option.ite_none_right_eq_some, Option.some.injEq] at hf
  obtain ⟨hz, rfl⟩ := hf
  exact ⟨d, e, rx.mono gh, ry.mono gh, hz, k _ (.bl _)⟩
theorem od_ne : OpD (rEq2 true) dNe := opd_scal fun G H x y d e z gh rx ry hf Q k => by
  simp only [dNe, Option.ite_none_right_eq_some, Option.some.injEq] at hf
  obtain ⟨hz, rfl⟩ := hf
  exact ⟨d, e, rx.mono gh, ry.mono gh, hz, k _ (.bl _)⟩
/-- in, not in, of a list or a tuple of data -/
def rIn2 (neg : Bool) : R2 := fun x y H Q => ∃ d es, Rp H x d ∧ (Rp H y (.list es) ∨ Rp H y (.tuple es)) ∧ inOk d es = true ∧ Q (.bl (if neg then !(es.any fun z => PyData.eqv z d) else es.any fun z => PyData.eqv z d)) H
theorem or_in (hu : X.A.units + 65 < cLine) : OpR X (compareOp .In) (rIn2 false) := by
  intro pins s σ H x y v u Q I rx ry h
  obtain ⟨d, es, hd, he, ok, q⟩ := h
  simp only [inOk, Bool.and_eq_true, decide_eq_true_eq] at ok
  obtain ⟨as, r1⟩ := Dp.reads I d x v hd.dp rx
  rcases he with he | he
  · obtain ⟨bs, r2⟩ := Dp.reads I _ y u he.dp ry
    exact SeqAt.in_list_data r2 r1 ok.1.1 ok.1.2 (by omega) ⟨.bl _, H, I, rfl, q⟩
  · obtain ⟨bs, r2⟩ := Dp.reads I _ y u he.dp ry
    exact SeqAt.in_tuple_data r2 r1 ok.1.1 ok.1.2 (by omega) ⟨.bl _, H, I, rfl, q⟩
theorem or_notIn (hu : X.A.units + 65 < cLine) : OpR X (compareOp .NotIn) (rIn2 true) := by
  intro pins s σ H x y v u Q I rx ry h
  obtain ⟨d, es, hd, he, ok, q⟩ := h
  simp only [inOk, Bool.and_eq_true, decide_eq_true_eq] at ok
  obtain ⟨as, r1⟩ := Dp.reads I d x v hd.dp rx
  rcases he with he | he
  · obtain ⟨bs, r2⟩ := Dp.reads I _ y u he.dp ry
    exact SeqAt.notIn_list_data r2 r1 ok.1.1 ok.1.2 (by omega) ⟨.bl _, H, I, rfl, q⟩
  · obtain ⟨bs, r2⟩ := Dp.reads I _ y u he.dp ry
    exact SeqAt.notIn_tuple_data r2 r1 ok.1.1 ok.1.2 (by omega) ⟨.bl _, H, I, rfl, q⟩
theorem od_in {neg : Bool} : OpD (rIn2 neg) (dIn neg) := opd_scal fun G H x y d e z gh rx ry hf Q k => by
  cases ry with
  | @lst p vs es hp r =>
    simp only [dIn, Option.ite_none_right_eq_some, Option.some.injEq] at hf
    obtain ⟨hz, rfl⟩ := hf
    exact ⟨d, es, rx.mono gh, .inl (.lst (gh _ _ hp) (r.mono gh)), hz, k _ (.bl _)⟩
  | @tup p vs es hp r =>
    simp only [dIn, Option.ite_none_right_eq_some, Option.some.injEq] at hf
    obtain ⟨hz, rfl⟩ := hf
    exact ⟨d, es, rx.mono gh, .inr (.tup (gh _ _ hp) (r.mono gh)), hz, k _ (.bl _)⟩
  | _ => cases hf
theorem od_isN : OpD (fun x y H Q => y = .non ∧ Q (.bl (decide (x = .non))) H) (dIsN false) := opd_scal fun G H x y d e z gh rx ry hf Q k => by
  cases ry with
  | non =>
    cases hf
    refine ⟨rfl, k _ ?_⟩
    cases rx <;> exact .bl _
  | _ => cases hf
theorem od_notN : OpD (fun x y H Q => y = .non ∧ Q (.bl (!decide (x = .non))) H) (dIsN true) := opd_scal fun G H x y d e z gh rx ry hf Q k => by
  cases ry with
  | non =>
    cases hf
    refine ⟨rfl, k _ ?_⟩
    cases rx <;> exact .bl _
  | _ => cases hf
theorem ixN_len {n m : Nat} (h : n = m) (i : Int) : ixN n i = ixN m i := by rw [h]
theorem od_ix {K : PySem.W.Frag} : OpD (fun x y H Q => rIxL K x y H Q ∨ rIxT K x y H Q) dIx := opd_scal fun G H x y d e z gh rx ry hf Q k => by
  have key : ∀ {vs : List V} {ds : List D} {i : Int}, RpL G vs ds → atI ds i = some z → ∃ v, atI vs i = some v ∧ Rp G v z := fun {vs ds i} r h => by
    unfold atI at h ⊢
    rw [r.length]
    obtain ⟨j, h1, h2⟩ := Option.bind_eq_some_iff.mp h
    obtain ⟨v, h3, h4⟩ := r.get h2
    exact ⟨v, by rw [h1]; exact h3, h4⟩
  cases rx with
  | @lst p vs ds hp r =>
    cases ry with
    | int i =>
      obtain ⟨v, h1, h2⟩ := key r hf
      exact .inl ⟨p, vs, i, v, rfl, rfl, SqL.of (gh _ _ hp), h1, k v h2⟩
    | _ => cases hf
  | @tup p vs ds hp r =>
    cases ry with
    | int i =>
      obtain ⟨v, h1, h2⟩ := key r hf
      exact .inr ⟨p, vs, i, v, rfl, rfl, SqT.of (gh _ _ hp), h1, k v h2⟩
    | _ => cases hf
  | _ => cases hf
theorem or_ix : IxR X (fun x y H Q => rIxL X.K x y H Q ∨ rIxT X.K x y H Q) := ix_list.or ix_tup
end

/-! ### the sequences of meanings for pure code -/
theorem lift1 {α β : Type} {oa : Option α} {f : α → Option β} {q : β → Nat → Prop} {m : Nat} (h : lift (oa.bind f) q m) : lift oa (fun x m1 => lift (f x) q m1) m := by
  obtain ⟨z, h, hq⟩ := h
  obtain ⟨x, h1, h2⟩ := Option.bind_eq_some_iff.mp h
  exact ⟨x, h1, z, h2, hq⟩
theorem lift2 {f : D → D → Option D} {oa ob : Option D} {q : D → Nat → Prop} {m : Nat} (h : lift (oa.bind fun x => ob.bind fun y => f x y) q m) : op2 f (lift oa) (lift ob) q m := by
  obtain ⟨x, h1, h2⟩ := lift1 h
  obtain ⟨y, h3, h4⟩ := lift1 h2
  exact ⟨x, h1, y, h3, h4⟩
abbrev JE (X : Cx) (R : Res) (ρ : List Cell) (e : Expr) (o : Option D) : Prop := JM X R ρ e (lift o)
abbrev JTE (X : Cx) (R : Res) (ρ : List Cell) (e : Expr) (o : Option Bool) : Prop := JT X R ρ e (lift o)
abbrev JLE (X : Cx) (R : Res) (ρ : List Cell) (e : Expr) (o : Option (List D)) : Prop := JL X R ρ e (lift o)
theorem lift_some' {α : Type} {a : α} {q : α → Nat → Prop} {m : Nat} (h : lift (some a) q m) : q a m := by rw [lift_some] at h; exact h

section
variable {X : Cx} {R : Res} {ρ : List Cell} {e a b c : Expr} {pos : Pos}
theorem je_var (i : Nat) {x : Str} {d : D} (hρ : ρ[i]? = some (.dat d) := by rfl) (hN : X.N[i]? = some x := by rfl) (hv : Vis X.env.scope x := by first | exact Or.inl rfl | exact Or.inr (Or.inl rfl) | exact Or.inr (Or.inr rfl)) (hd : (x == ("__debug__" : Str)) = false := by decide)
    (hcd : (x == ("__classdict__" : Str)) = false := by decide) : JE X R ρ (.Name x pos) (some d) := (jm_var i hρ hN hv hd hcd).imp fun _ _ => lift_some'
theorem je_int {i : Int} {j} : JE X R ρ (.Constant (.int i) j pos) (some (.int i)) := jm_int.imp fun _ _ => lift_some'
theorem je_bl {i : Bool} {j} : JE X R ρ (.Constant (.bool i) j pos) (some (.bool i)) := jm_bl.imp fun _ _ => lift_some'
theorem je_non {j} : JE X R ρ (.Constant .none j pos) (some .none) := jm_non.imp fun _ _ => lift_some'
theorem je_str {i : Str} {j} : JE X R ρ (.Constant (.str i) j pos) (some (.str i)) := jm_str.imp fun _ _ => lift_some'
abbrev b2 (f : D → D → Option D) (oa ob : Option D) : Option D := oa.bind fun x => ob.bind fun y => f x y
theorem je_op {op : Operator} {r : R2} {f : D → D → Option D} {oa ob : Option D} (hr : OpR X (binaryOp op) r) (ho : OpD r f) (ha : JE X R ρ a oa) (hb : JE X R ρ b ob) : JE X R ρ (.BinOp a op b pos) (b2 f oa ob) := (jm_op hr ho ha hb).imp fun _ _ => lift2
theorem je_cmp {op : CmpOp} {r : R2} {f : D → D → Option D} {oa ob : Option D} (hr : OpR X (compareOp op) r) (ho : OpD r f) (ha : JE X R ρ a oa) (hb : JE X R ρ b ob) (hm : behindInMarks op b = false) : JE X R ρ (.Compare a [op] [b] pos) (b2 f oa ob) :=
  (jm_cmp hr ho ha hb hm).imp fun _ _ => lift2
theorem je_ix {oa ob : Option D} (ha : JE X R ρ a oa) (hb : JE X R ρ b ob) (hs : PlainIx b := by exact fun _ _ => rfl) : JE X R ρ (.Subscript a b pos) (b2 dIx oa ob) := (jm_ix or_ix od_ix ha hb hs).imp fun _ _ => lift2

/-! ### tests -/
def asB : D → Option Bool
  | .bool b => some b
  | _ => none
theorem asB_eq {d : D} {b : Bool} (h : asB d = some b) : d = .bool b := by
  cases d with
  | bool c => cases h; rfl
  | _ => cases h
/-- a value as a test: a bool's -/
theorem jt_val {T : M D} (h : JM X R ρ e T) (he : ∀ whole, isTrue e X.env whole = (do let v ← whole; standAt e.pos; holding [v] (truthy v)) := by intro _; rfl) : JT X R ρ e (fun q => T fun d m => lift (asB d) q m) := by
  refine PT.imp (pt_val h he) fun σ H Q ⟨G, m, q, S, t, k⟩ => ⟨G, m, _, S, t, fun v d G' H' m' S' g r hq => ?_⟩
  obtain ⟨b, hb, hq⟩ := hq
  rw [asB_eq hb] at r
  cases r
  exact ⟨b, rfl, k b G' H' m' S' g hq⟩
theorem jte_val {o : Option D} (h : JE X R ρ e o) (he : ∀ whole, isTrue e X.env whole = (do let v ← whole; standAt e.pos; holding [v] (truthy v)) := by intro _; rfl) : JTE X R ρ e (o.bind asB) := (jt_val h he).imp fun _ _ => lift1
theorem jt_cmp {op : CmpOp} {r : R2} {f : D → D → Option D} {Ta Tb : M D} (hr : OpR X (compareOp op) r) (ho : OpD r f) (ha : JM X R ρ a Ta) (hb : JM X R ρ b Tb) (hm : behindInMarks op b = false) : JT X R ρ (.Compare a [op] [b] pos) (fun q => op2 f Ta Tb fun d m => lift (asB d) q m) := by
  refine PT.imp (pt_cmpR hr ha hb hm) fun σ H Q ⟨G, m, q, S, t, k⟩ => op_read (R := R) (ρ := ρ) ho σ H _ ⟨G, m, _, S, t, fun v d G' H' m' S' g r hq => ?_⟩
  obtain ⟨b, hb, hq⟩ := hq
  rw [asB_eq hb] at r
  cases r
  exact ⟨b, rfl, k b G' H' m' S' g hq⟩
theorem jte_cmp {op : CmpOp} {r : R2} {f : D → D → Option D} {oa ob : Option D} (hr : OpR X (compareOp op) r) (ho : OpD r f) (ha : JE X R ρ a oa) (hb : JE X R ρ b ob) (hm : behindInMarks op b = false) : JTE X R ρ (.Compare a [op] [b] pos) ((b2 f oa ob).bind asB) :=
  (jt_cmp hr ho ha hb hm).imp fun _ _ h => lift2 (by
    obtain ⟨x, h1, h2⟩ := lift1 h
    exact ⟨x, h1, h2⟩)
def JW (X : Cx) (R : Res) (ρ : List Cell) (e : Expr) (T : M Bool) : Prop := PW X e (tT R ρ T)
theorem JW.jt {T : M Bool} (h : JW X R ρ e T) : JT X R ρ e T := PW.pt h
theorem PW.imp {t t' : TT} (h : PW X e t) (k : ∀ σ H Q, t' σ H Q → t σ H Q) : PW X e t' := ⟨fun wh pins s σ H Q I q => h.run wh pins s σ H Q I (k σ H Q q)⟩
theorem JW.imp {T T' : M Bool} (h : JW X R ρ e T) (k : ∀ q m, T' q m → T q m) : JW X R ρ e T' := PW.imp h fun _ _ _ ⟨G, m, q, S, t, c⟩ => ⟨G, m, q, S, k q m t, c⟩
variable {rest : List Expr}
theorem jw_and1 {T : M Bool} (ha : JT X R ρ a T) : JW X R ρ (.BoolOp .And [a] pos) T := pw_and1 ha
theorem jw_or1 {T : M Bool} (ha : JT X R ρ a T) : JW X R ρ (.BoolOp .Or [a] pos) T := pw_or1 ha
theorem jw_and {Ta Tb : M Bool} (ha : JT X R ρ a Ta) (hb : JW X R ρ (.BoolOp .And (b :: rest) pos) Tb) : JW X R ρ (.BoolOp .And (a :: b :: rest) pos) (fun q m => Ta (fun c m1 => if c = true then Tb q m1 else q false m1) m) := by
  refine PW.imp (pw_and ha hb) fun σ H Q ⟨G, m, q, S, t, k⟩ => ⟨G, m, _, S, t, fun c G1 H1 m1 S1 g1 q1 => ?_⟩
  cases c with
  | true =>
    show tT R ρ Tb σ H1 Q
    exact ⟨G1, m1, q, S1, q1, fun b G2 H2 m2 S2 g2 q2 => k b G2 H2 m2 S2 (g1.trans S1.vh g2) q2⟩
  | false =>
    show Q false H1
    exact k false G1 H1 m1 S1 g1 q1
theorem jw_or {Ta Tb : M Bool} (ha : JT X R ρ a Ta) (hb : JW X R ρ (.BoolOp .Or (b :: rest) pos) Tb) : JW X R ρ (.BoolOp .Or (a :: b :: rest) pos) (fun q m => Ta (fun c m1 => if c = true then q true m1 else Tb q m1) m) := by
  refine PW.imp (pw_or ha hb) fun σ H Q ⟨G, m, q, S, t, k⟩ => ⟨G, m, _, S, t, fun c G1 H1 m1 S1 g1 q1 => ?_⟩
  cases c with
  | false =>
    show tT R ρ Tb σ H1 Q
    exact ⟨G1, m1, q, S1, q1, fun b G2 H2 m2 S2 g2 q2 => k b G2 H2 m2 S2 (g1.trans S1.vh g2) q2⟩
  | true =>
    show Q true H1
    exact k true G1 H1 m1 S1 g1 q1
theorem jt_not {T : M Bool} (ha : JT X R ρ a T) : JT X R ρ (.UnaryOp .Not a pos) (fun q => T fun b => q (!b)) := by
  refine PT.imp (pt_not ha) fun σ H Q ⟨G, m, q, S, t, k⟩ => ⟨G, m, _, S, t, fun c G1 H1 m1 S1 g1 q1 => k (!c) G1 H1 m1 S1 g1 q1⟩
abbrev JWE (X : Cx) (R : Res) (ρ : List Cell) (e : Expr) (o : Option Bool) : Prop := JW X R ρ e (lift o)
def andO (oa ob : Option Bool) : Option Bool := oa.bind fun c => if c = true then ob else some false
def orO (oa ob : Option Bool) : Option Bool := oa.bind fun c => if c = true then some true else ob
theorem jwe_and {oa ob : Option Bool} (ha : JTE X R ρ a oa) (hb : JWE X R ρ (.BoolOp .And (b :: rest) pos) ob) : JWE X R ρ (.BoolOp .And (a :: b :: rest) pos) (andO oa ob) := (jw_and ha hb).imp fun q m h => by
  obtain ⟨c, h1, h2⟩ := lift1 h
  refine ⟨c, h1, ?_⟩
  cases c with
  | true => exact h2
  | false => exact lift_some' h2
theorem jwe_or {oa ob : Option Bool} (ha : JTE X R ρ a oa) (hb : JWE X R ρ (.BoolOp .Or (b :: rest) pos) ob) : JWE X R ρ (.BoolOp .Or (a :: b :: rest) pos) (orO oa ob) := (jw_or ha hb).imp fun q m h => by
  obtain ⟨c, h1, h2⟩ := lift1 h
  refine ⟨c, h1, ?_⟩
  cases c with
  | false => exact h2
  | true => exact lift_some' h2
theorem jwe_and1 {o : Option Bool} (ha : JTE X R ρ a o) : JWE X R ρ (.BoolOp .And [a] pos) o := jw_and1 ha
theorem jwe_or1 {o : Option Bool} (ha : JTE X R ρ a o) : JWE X R ρ (.BoolOp .Or [a] pos) o := jw_or1 ha
theorem jte_not {o : Option Bool} (ha : JTE X R ρ a o) : JTE X R ρ (.UnaryOp .Not a pos) (o.map (!·)) := (jt_not ha).imp fun q m h => by
  obtain ⟨z, h1, h2⟩ := h
  obtain ⟨c, h3, h4⟩ := Option.map_eq_some_iff.mp h1
  subst h4
  exact ⟨c, h3, h2⟩
/-- and, or, not as values -/
theorem jm_one {op} {T : M D} (h : JM X R ρ a T) : JM X R ρ (.BoolOp op [a] pos) T := pe_one h
theorem jm_and {Ta Tb : M D} (ha : JM X R ρ a Ta) (hb : JM X R ρ (.BoolOp .And (b :: rest) pos) Tb) : JM X R ρ (.BoolOp .And (a :: b :: rest) pos) (fun q m => Ta (fun d m1 => ∃ c, d = .bool c ∧ if c = true then Tb q m1 else q (.bool false) m1) m) := by
  refine PE.imp (pe_and ha hb) fun σ H Q ⟨G, m, q, S, t, k⟩ => ⟨G, m, _, S, t, fun v d G1 H1 m1 S1 g1 r1 q1 => ?_⟩
  obtain ⟨c, e, q1⟩ := q1
  subst e
  cases r1
  refine ⟨c, rfl, ?_⟩
  cases c with
  | true =>
    show tJ R ρ Tb σ H1 Q
    exact ⟨G1, m1, q, S1, q1, fun v b G2 H2 m2 S2 g2 r2 q2 => k v b G2 H2 m2 S2 (g1.trans S1.vh g2) r2 q2⟩
  | false =>
    show Q _ H1
    exact k _ _ G1 H1 m1 S1 g1 (.bl false) q1
theorem jm_or {Ta Tb : M D} (ha : JM X R ρ a Ta) (hb : JM X R ρ (.BoolOp .Or (b :: rest) pos) Tb) : JM X R ρ (.BoolOp .Or (a :: b :: rest) pos) (fun q m => Ta (fun d m1 => ∃ c, d = .bool c ∧ if c = true then q (.bool true) m1 else Tb q m1) m) := by
  refine PE.imp (pe_or ha hb) fun σ H Q ⟨G, m, q, S, t, k⟩ => ⟨G, m, _, S, t, fun v d G1 H1 m1 S1 g1 r1 q1 => ?_⟩
  obtain ⟨c, e, q1⟩ := q1
  subst e
  cases r1
  refine ⟨c, rfl, ?_⟩
  cases c with
  | false =>
    show tJ R ρ Tb σ H1 Q
    exact ⟨G1, m1, q, S1, q1, fun v b G2 H2 m2 S2 g2 r2 q2 => k v b G2 H2 m2 S2 (g1.trans S1.vh g2) r2 q2⟩
  | true =>
    show Q _ H1
    exact k _ _ G1 H1 m1 S1 g1 (.bl true) q1
theorem jm_not {T : M D} (ha : JM X R ρ a T) : JM X R ρ (.UnaryOp .Not a pos) (fun q => T fun d m => ∃ c, d = .bool c ∧ q (.bool (!c)) m) := by
  refine PE.imp (pe_not ha) fun σ H Q ⟨G, m, q, S, t, k⟩ => ⟨G, m, _, S, t, fun v d G1 H1 m1 S1 g1 r1 q1 => ?_⟩
  obtain ⟨c, e, q1⟩ := q1
  subst e
  cases r1
  exact ⟨c, rfl, k _ _ G1 H1 m1 S1 g1 (.bl _) q1⟩
def andV (oa ob : Option D) : Option D := (oa.bind asB).bind fun c => if c = true then ob else some (.bool false)
def orV (oa ob : Option D) : Option D := (oa.bind asB).bind fun c => if c = true then some (.bool true) else ob
def notV (oa : Option D) : Option D := (oa.bind asB).map fun c => .bool (!c)
theorem je_one {op} {o : Option D} (h : JE X R ρ a o) : JE X R ρ (.BoolOp op [a] pos) o := jm_one h
theorem je_and {oa ob : Option D} (ha : JE X R ρ a oa) (hb : JE X R ρ (.BoolOp .And (b :: rest) pos) ob) : JE X R ρ (.BoolOp .And (a :: b :: rest) pos) (andV oa ob) := (jm_and ha hb).imp fun q m h => by
  obtain ⟨c, h1, h2⟩ := lift1 h
  obtain ⟨d, h3, h4⟩ := Option.bind_eq_some_iff.mp h1
  refine ⟨d, h3, c, asB_eq h4, ?_⟩
  cases c with
  | true => exact h2
  | false => exact lift_some' h2
theorem je_or {oa ob : Option D} (ha : JE X R ρ a oa) (hb : JE X R ρ (.BoolOp .Or (b :: rest) pos) ob) : JE X R ρ (.BoolOp .Or (a :: b :: rest) pos) (orV oa ob) := (jm_or ha hb).imp fun q m h => by
  obtain ⟨c, h1, h2⟩ := lift1 h
  obtain ⟨d, h3, h4⟩ := Option.bind_eq_some_iff.mp h1
  refine ⟨d, h3, c, asB_eq h4, ?_⟩
  cases c with
  | false => exact h2
  | true => exact lift_some' h2
theorem je_not {oa : Option D} (ha : JE X R ρ a oa) : JE X R ρ (.UnaryOp .Not a pos) (notV oa) := (jm_not ha).imp fun q m h => by
  obtain ⟨z, h1, h2⟩ := h
  obtain ⟨c, h3, h4⟩ := Option.map_eq_some_iff.mp h1
  obtain ⟨d, h5, h6⟩ := Option.bind_eq_some_iff.mp h3
  subst h4
  exact ⟨d, h5, c, asB_eq h6, h2⟩
theorem jm_if {Tc : M Bool} {Ta Tb : M D} (hc : JT X R ρ c Tc) (ha : JM X R ρ a Ta) (hb : JM X R ρ b Tb) : JM X R ρ (.IfExp c a b pos) (fun q m => Tc (fun t m1 => if t = true then Ta q m1 else Tb q m1) m) := by
  refine PE.imp (pe_ifExp hc ha hb) fun σ H Q ⟨G, m, q, S, t, k⟩ => ⟨G, m, _, S, t, fun c G1 H1 m1 S1 g1 q1 => ?_⟩
  cases c with
  | true =>
    show tJ R ρ Ta σ H1 Q
    exact ⟨G1, m1, q, S1, q1, fun v b G2 H2 m2 S2 g2 r2 q2 => k v b G2 H2 m2 S2 (g1.trans S1.vh g2) r2 q2⟩
  | false =>
    show tJ R ρ Tb σ H1 Q
    exact ⟨G1, m1, q, S1, q1, fun v b G2 H2 m2 S2 g2 r2 q2 => k v b G2 H2 m2 S2 (g1.trans S1.vh g2) r2 q2⟩
def ifO {α : Type} (oc : Option Bool) (oa ob : Option α) : Option α := oc.bind fun t => if t = true then oa else ob
theorem je_if {oc : Option Bool} {oa ob : Option D} (hc : JTE X R ρ c oc) (ha : JE X R ρ a oa) (hb : JE X R ρ b ob) : JE X R ρ (.IfExp c a b pos) (ifO oc oa ob) := (jm_if hc ha hb).imp fun q m h => by
  obtain ⟨t, h1, h2⟩ := lift1 h
  refine ⟨t, h1, ?_⟩
  cases t <;> exact h2

/-! ### chains a < b < c -/
theorem jm_chain {op op' : CmpOp} {r r' : R2} {f f' : D → D → Option D} {Ta Tb Tc : M D} (hr : OpR X (compareOp op) r) (hr' : OpR X (compareOp op') r') (ho : OpD r f) (ho' : OpD r' f') (ha : JM X R ρ a Ta) (hb : JM X R ρ b Tb) (hc : JM X R ρ c Tc)
    (hm : lastMarks [op, op'] [b, c] = false := by with_unfolding_all rfl) : JM X R ρ (.Compare a [op, op'] [b, c] pos) (fun q m => Ta (fun x m1 => Tb (fun y m2 => ∃ t, f x y = some (.bool t) ∧ if t = true then Tc (fun z m3 => lift (f' y z) q m3) m2 else q (.bool false) m2) m1) m) := by
  refine PE.imp (pe_chain hr hr' ha hb hc hm) fun σ H Q ⟨G, m, q, S, t, k⟩ => ⟨G, m, _, S, t, fun v d G1 H1 m1 S1 g1 r1 q1 => ⟨G1, m1, _, S1, q1, fun w e G2 H2 m2 S2 g2 r2 q2 => ?_⟩⟩
  obtain ⟨t, hf, q2⟩ := q2
  refine ho G2 H2 v w d e _ _ S2.gh (r1.mono g2.gg) r2 hf fun u G3 H3 g3 s3 r3 => ?_
  obtain ⟨S3, g3'⟩ := S2.growS g3 s3
  cases r3
  refine ⟨t, rfl, ?_⟩
  cases t with
  | false =>
    show Q _ H3
    exact k _ _ G3 H3 m2 S3 ((g1.trans S1.vh g2).trans S2.vh g3') (.bl false) q2
  | true =>
    show tJ R ρ Tc σ H3 _
    refine ⟨G3, m2, _, S3, q2, fun w2 z G4 H4 m4 S4 g4 r4 q4 => ?_⟩
    obtain ⟨z2, hz, q4⟩ := q4
    refine ho' G4 H4 w w2 e z z2 Q S4.gh (r2.mono (g3.gg.trans g4.gg)) r4 hz fun u5 G5 H5 g5 s5 r5 => ?_
    obtain ⟨S5, g5'⟩ := S4.growS g5 s5
    exact k _ _ G5 H5 m4 S5 ((((g1.trans S1.vh g2).trans S2.vh g3').trans S3.vh g4).trans S4.vh g5') r5 q4
def chainO (f f' : D → D → Option D) (oa ob oc : Option D) : Option D := oa.bind fun x => ob.bind fun y => ((f x y).bind asB).bind fun t => if t = true then oc.bind fun z => f' y z else some (.bool false)
theorem je_chain {op op' : CmpOp} {r r' : R2} {f f' : D → D → Option D} {oa ob oc : Option D} (hr : OpR X (compareOp op) r) (hr' : OpR X (compareOp op') r') (ho : OpD r f) (ho' : OpD r' f') (ha : JE X R ρ a oa) (hb : JE X R ρ b ob) (hc : JE X R ρ c oc)
    (hm : lastMarks [op, op'] [b, c] = false := by with_unfolding_all rfl) : JE X R ρ (.Compare a [op, op'] [b, c] pos) (chainO f f' oa ob oc) := (jm_chain hr hr' ho ho' ha hb hc hm).imp fun q m h => by
  obtain ⟨x, h1, h2⟩ := lift1 h
  obtain ⟨y, h3, h4⟩ := lift1 h2
  obtain ⟨t, h5, h6⟩ := lift1 h4
  obtain ⟨d, h7, h8⟩ := Option.bind_eq_some_iff.mp h5
  refine ⟨x, h1, y, h3, t, by rw [h7, asB_eq h8], ?_⟩
  cases t with
  | true =>
    obtain ⟨z, h9, h10⟩ := lift1 h6
    exact ⟨z, h9, h10⟩
  | false => exact lift_some' h6
theorem jt_chain {op op' : CmpOp} {r r' : R2} {f f' : D → D → Option D} {Ta Tb Tc : M D} (hr : OpR X (compareOp op) r) (hr' : OpR X (compareOp op') r') (ho : OpD r f) (ho' : OpD r' f') (ha : JM X R ρ a Ta) (hb : JM X R ρ b Tb) (hc : JM X R ρ c Tc)
    (hm : lastMarks [op, op'] [b, c] = false := by with_unfolding_all rfl) : JT X R ρ (.Compare a [op, op'] [b, c] pos) (fun q m => Ta (fun x m1 => Tb (fun y m2 => ∃ t, f x y = some (.bool t) ∧ if t = true then Tc (fun z m3 => ∃ u, f' y z = some (.bool u) ∧ q u m3) m2 else q false m2) m1) m) := by
  refine PT.imp (pt_chain hr hr' ha hb hc hm) fun σ H Q ⟨G, m, q, S, t, k⟩ => ⟨G, m, _, S, t, fun v d G1 H1 m1 S1 g1 r1 q1 => ⟨G1, m1, _, S1, q1, fun w e G2 H2 m2 S2 g2 r2 q2 => ?_⟩⟩
  obtain ⟨t, hf, q2⟩ := q2
  refine ho G2 H2 v w d e _ _ S2.gh (r1.mono g2.gg) r2 hf fun u G3 H3 g3 s3 r3 => ?_
  obtain ⟨S3, g3'⟩ := S2.growS g3 s3
  cases r3
  refine ⟨t, rfl, ?_⟩
  cases t with
  | false => exact ⟨false, rfl, k _ G3 H3 m2 S3 ((g1.trans S1.vh g2).trans S2.vh g3') q2⟩
  | true =>
    show tJ R ρ Tc σ H3 _
    refine ⟨G3, m2, _, S3, q2, fun w2 z G4 H4 m4 S4 g4 r4 q4 => ?_⟩
    obtain ⟨u2, hz, q4⟩ := q4
    refine ho' G4 H4 w w2 e z _ _ S4.gh (r2.mono (g3.gg.trans g4.gg)) r4 hz fun u5 G5 H5 g5 s5 r5 => ?_
    obtain ⟨S5, g5'⟩ := S4.growS g5 s5
    cases r5
    exact ⟨u2, rfl, k _ G5 H5 m4 S5 ((((g1.trans S1.vh g2).trans S2.vh g3').trans S3.vh g4).trans S4.vh g5') q4⟩
theorem jte_chain {op op' : CmpOp} {r r' : R2} {f f' : D → D → Option D} {oa ob oc : Option D} (hr : OpR X (compareOp op) r) (hr' : OpR X (compareOp op') r') (ho : OpD r f) (ho' : OpD r' f') (ha : JE X R ρ a oa) (hb : JE X R ρ b ob) (hc : JE X R ρ c oc)
    (hm : lastMarks [op, op'] [b, c] = false := by with_unfolding_all rfl) : JTE X R ρ (.Compare a [op, op'] [b, c] pos) ((chainO f f' oa ob oc).bind asB) := (jt_chain hr hr' ho ho' ha hb hc hm).imp fun q m h => by
  obtain ⟨z, h0, h00⟩ := lift1 h
  obtain ⟨x, h1, h2⟩ := Option.bind_eq_some_iff.mp h0
  obtain ⟨y, h3, h4⟩ := Option.bind_eq_some_iff.mp h2
  obtain ⟨t, h5, h6⟩ := Option.bind_eq_some_iff.mp h4
  obtain ⟨d, h7, h8⟩ := Option.bind_eq_some_iff.mp h5
  obtain ⟨u, h11, h12⟩ := h00
  refine ⟨x, h1, y, h3, t, by rw [h7, asB_eq h8], ?_⟩
  cases t with
  | true =>
    obtain ⟨z2, h9, h10⟩ := Option.bind_eq_some_iff.mp h6
    exact ⟨z2, h9, u, by rw [h10, asB_eq h11], h12⟩
  | false =>
    cases h6
    cases h11
    exact h12
end
end Dl

set_option Elab.async false
set_option linter.all false
set_option autoImplicit false
set_option maxRecDepth 100000
set_option maxHeartbeats 1000000
namespace Dl
open PySem L2

/-! ### what a body may lean on -/
structure Bx (X : Cx) (k : Nat) : Prop where
  hr : Room k X.A
  hg : X.A.guards = some []
  hc : X.calm = true
  nd : X.N.Nodup
  ps : PassesOwn (model X.prog X.w) X.A X.env X.xe
theorem Bx.blk {X : Cx} {k : Nat} (B : Bx X k) (s : Shared) (H : Hp) (scope : Scope) (cenv : Env) (fp : List Addr) : Bx (X.blk s H scope cenv fp) k := ⟨B.hr, B.hg, B.hc, B.nd, PassesOwn.never⟩
theorem Bx.u64 {X : Cx} {k : Nat} (B : Bx X k) : X.A.units + 64 < cLine := B.hr.units
theorem Bx.u0 {X : Cx} {k : Nat} (B : Bx X k) : X.A.units < cLine := B.hr.units0
theorem Bx.u65 {X : Cx} {k : Nat} (B : Bx X k) : X.A.units + 65 < cLine := by have := B.hr.un; omega
theorem Bx.mono {X : Cx} {j k : Nat} (B : Bx X k) (h : j ≤ k) : Bx X j := ⟨B.hr.mono h, B.hg, B.hc, B.nd, B.ps⟩

/-! ### arguments, displays -/
section
variable {X : Cx} {R : Res} {ρ : List Cell} {e a b c : Expr} {es : List Expr} {pos : Pos} {n : Nat}
theorem ja_nil : JA X R ρ [] 0 (fun q m => q [] m) := PA.imp pa_nil fun _ H _ ⟨G, m, _, S, t, k⟩ => k _ _ G H m S (Grow.refl _ _ _) .nil rfl t
theorem ja_cons {T : M D} {Ts : M (List D)} (ha : JM X R ρ e T) (hs : JA X R ρ es n Ts) (hst : starEach (e :: es) X.env = (false, eval e X.env) :: starEach es X.env := by rfl) :
    JA X R ρ (e :: es) (n + 1) (fun q m => T (fun d m1 => Ts (fun ds m2 => q (d :: ds) m2) m1) m) := by
  refine PA.imp (pa_cons ha hs hst) fun σ H Q ⟨G, m, q, S, t, k⟩ => ⟨G, m, _, S, t, fun v d G1 H1 m1 S1 g1 r1 q1 => ⟨G1, m1, _, S1, q1, fun vs ds G2 H2 m2 S2 g2 r2 l2 q2 => ?_⟩⟩
  exact k _ _ G2 H2 m2 S2 (g1.trans S1.vh g2) (.cons (r1.mono g2.gg) r2) (by simp [l2]) q2
abbrev JAE (X : Cx) (R : Res) (ρ : List Cell) (es : List Expr) (n : Nat) (o : Option (List D)) : Prop := JA X R ρ es n (lift o)
def consO (oa : Option D) (os : Option (List D)) : Option (List D) := oa.bind fun x => os.bind fun xs => some (x :: xs)
theorem jae_nil : JAE X R ρ [] 0 (some []) := ja_nil.imp fun _ _ => lift_some'
theorem jae_cons {oa : Option D} {os : Option (List D)} (ha : JE X R ρ e oa) (hs : JAE X R ρ es n os) (hst : starEach (e :: es) X.env = (false, eval e X.env) :: starEach es X.env := by rfl) : JAE X R ρ (e :: es) (n + 1) (consO oa os) :=
  (ja_cons ha hs hst).imp fun q m h => by
    obtain ⟨x, h1, h2⟩ := lift1 h
    obtain ⟨xs, h3, h4⟩ := lift1 h2
    exact ⟨x, h1, xs, h3, lift_some' h4⟩
theorem jm_tup {Ts : M (List D)} {x1} (h : JA X R ρ es n Ts) (hn : n ≤ 1000) : JM X R ρ (.Tuple es x1 pos) (fun q => Ts fun ds => q (.tuple ds)) := by
  refine PE.imp (pe_tup h) fun σ H Q ⟨G, m, q, S, t, k⟩ => ⟨G, m, _, S, t, fun vs ds G1 H1 m1 S1 g1 r1 l1 q1 => ⟨?_, fun p hp => ?_⟩⟩
  · rw [r1.length, l1]; exact Nat.le_of_lt (small1000 hn)
  · obtain ⟨g2, s2⟩ := grow_new S1.gh hp (.tup vs)
    obtain ⟨S2, g2'⟩ := S1.growS g2 s2
    exact k _ _ _ _ m1 S2 (g1.trans S1.vh g2') (.tup upd_same (r1.mono g2.gg)) q1
theorem jl_lst {Ts : M (List D)} (h : JA X R ρ es n Ts) (hn : n ≤ 1000) : JL X R ρ (.List es pos) Ts := by
  refine PE.imp (pe_lst h) fun σ H Q ⟨G, m, q, S, t, k⟩ => ⟨G, m, _, S, t, fun vs ds G1 H1 m1 S1 g1 r1 l1 q1 => ⟨?_, fun p hp => ?_⟩⟩
  · rw [r1.length, l1]; exact Nat.le_of_lt (small1000 hn)
  · obtain ⟨g2, s2⟩ := grow_own S1.gh hp (.lst vs)
    obtain ⟨S2, g2'⟩ := S1.growS g2 s2
    have hp0 : H p = none := by
      cases e : H p with
      | none => rfl
      | some o =>
        by_cases v : R.vol p
        · exact absurd hp (S1.vh p v)
        · rw [g1.hh p o v e] at hp; cases hp
    exact k p vs ds G1 _ m1 S2 (g1.trans S1.vh g2') hp0 (S1.gh.free hp) upd_same r1 q1
theorem je_tup {os : Option (List D)} {x1} (h : JAE X R ρ es n os) (hn : n ≤ 1000 := by decide) : JE X R ρ (.Tuple es x1 pos) (os.map PyData.tuple) := (jm_tup h hn).imp fun q m ⟨z, h1, h2⟩ => by
  obtain ⟨ds, h3, h4⟩ := Option.map_eq_some_iff.mp h1
  subst h4
  exact ⟨ds, h3, h2⟩
theorem jle_lst {os : Option (List D)} (h : JAE X R ρ es n os) (hn : n ≤ 1000 := by decide) : JLE X R ρ (.List es pos) os := jl_lst h hn
theorem JLE.je {o : Option (List D)} (h : JLE X R ρ e o) : JE X R ρ e (o.map PyData.list) := (JL.jm h).imp fun q m ⟨z, h1, h2⟩ => by
  obtain ⟨ds, h3, h4⟩ := Option.map_eq_some_iff.mp h1
  subst h4
  exact ⟨ds, h3, h2⟩

/-! ### built-ins by their values -/
def CallD (r : List V → Hp → VK → Prop) (F : List D → Option D) : Prop := ∀ (G H : Hp) (vs : List V) (ds : List D) (z : D) (Q : VK), Same G H → RpL G vs ds → F ds = some z →
  (∀ v G' H', Grow (fun _ => False) G H G' H' → Same G' H' → Rp G' v z → Q v H') → r vs H Q
/-- .. a new list -/
def CallDL (r : List V → Hp → VK → Prop) (F : List D → Option (List D)) : Prop := ∀ (G H : Hp) (vs : List V) (ds : List D) (z : List D) (Q : VK), Same G H → RpL G vs ds → F ds = some z →
  (∀ p ws G' H', Grow (fun _ => False) G H G' H' → Same G' H' → H p = none → G' p = none → H' p = some (.lst ws) → RpL G' ws z → Q (.ref p) H') → r vs H Q
theorem call_read {r : List V → Hp → VK → Prop} {F : List D → Option D} {Ts : M (List D)} (hF : CallD r F) (σ : L2.St) (H : Hp) (Q : VK) (h : tJ R ρ (fun q => Ts fun ds => lift (F ds) q) σ H Q) : tCB r (tAs R ρ n Ts) σ H Q := by
  obtain ⟨G, m, q, S, t, k⟩ := h
  refine ⟨G, m, _, S, t, fun vs ds G1 H1 m1 S1 g1 r1 l1 q1 => ?_⟩
  obtain ⟨z, hz, q1⟩ := q1
  refine hF G1 H1 vs ds z Q S1.gh r1 hz fun v G2 H2 g2 s2 r2 => ?_
  obtain ⟨S2, g2'⟩ := S1.growS g2 s2
  exact k v z G2 H2 m1 S2 (g1.trans S1.vh g2') r2 q1
theorem call_readL {r : List V → Hp → VK → Prop} {F : List D → Option (List D)} {Ts : M (List D)} (hF : CallDL r F) (σ : L2.St) (H : Hp) (Q : VK) (h : tL R ρ (fun q => Ts fun ds => lift (F ds) q) σ H Q) : tCB r (tAs R ρ n Ts) σ H Q := by
  obtain ⟨G, m, q, S, t, k⟩ := h
  refine ⟨G, m, _, S, t, fun vs ds G1 H1 m1 S1 g1 r1 l1 q1 => ?_⟩
  obtain ⟨z, hz, q1⟩ := q1
  refine hF G1 H1 vs ds z Q S1.gh r1 hz fun p ws G2 H2 g2 s2 hp gp hp2 r2 => ?_
  obtain ⟨S2, g2'⟩ := S1.growS g2 s2
  exact k p ws z G2 H2 m1 S2 (g1.trans S1.vh g2') (free_of g1 S1.vh hp) gp hp2 r2 q1
variable {x : Str} {id T : String} {p : Pos} {r : List V → Hp → VK → Prop}
theorem jm_callB {F : List D → Option D} {Ts : M (List D)} (hr : CallR X (.builtin id) r) (hF : CallD r F) (hm : X.mg x = none) (hv : bootBuiltins x = some (.builtin id)) (ha : JA X R ρ (e :: es) n Ts) (hg : Gl X x := by rfl) (hn : x ≠ "__name__" := by decide) (hdb : (x == ("__debug__" : Str)) = false := by decide)
    (he : starEach (e :: es) X.env = (false, eval e X.env) :: starEach es X.env := by rfl) (hpl : (backTo pos (starEach es X.env)).any (·.1) = false := by rfl) : JM X R ρ (.Call (.Name x p) (e :: es) [] pos) (fun q => Ts fun ds => lift (F ds) q) :=
  PE.imp (pe_callB hr hg hm hv ha hn hdb he hpl) (call_read hF)
theorem jm_callTy {F : List D → Option D} {Ts : M (List D)} (hr : CallR X (.type T) r) (hF : CallD r F) (hm : X.mg x = none) (hv : bootBuiltins x = some (.type T)) (ha : JA X R ρ (e :: es) n Ts) (hg : Gl X x := by rfl) (hn : x ≠ "__name__" := by decide) (hdb : (x == ("__debug__" : Str)) = false := by decide)
    (he : starEach (e :: es) X.env = (false, eval e X.env) :: starEach es X.env := by rfl) (hpl : (backTo pos (starEach es X.env)).any (·.1) = false := by rfl) : JM X R ρ (.Call (.Name x p) (e :: es) [] pos) (fun q => Ts fun ds => lift (F ds) q) :=
  PE.imp (pe_callTy hr hg hm hv ha hn hdb he hpl) (call_read hF)
theorem jl_callB {F : List D → Option (List D)} {Ts : M (List D)} (hr : CallR X (.builtin id) r) (hF : CallDL r F) (hm : X.mg x = none) (hv : bootBuiltins x = some (.builtin id)) (ha : JA X R ρ (e :: es) n Ts) (hg : Gl X x := by rfl) (hn : x ≠ "__name__" := by decide) (hdb : (x == ("__debug__" : Str)) = false := by decide)
    (he : starEach (e :: es) X.env = (false, eval e X.env) :: starEach es X.env := by rfl) (hpl : (backTo pos (starEach es X.env)).any (·.1) = false := by rfl) : JL X R ρ (.Call (.Name x p) (e :: es) [] pos) (fun q => Ts fun ds => lift (F ds) q) :=
  PE.imp (pe_callB hr hg hm hv ha hn hdb he hpl) (call_readL hF)
theorem jl_callTy {F : List D → Option (List D)} {Ts : M (List D)} (hr : CallR X (.type T) r) (hF : CallDL r F) (hm : X.mg x = none) (hv : bootBuiltins x = some (.type T)) (ha : JA X R ρ (e :: es) n Ts) (hg : Gl X x := by rfl) (hn : x ≠ "__name__" := by decide) (hdb : (x == ("__debug__" : Str)) = false := by decide)
    (he : starEach (e :: es) X.env = (false, eval e X.env) :: starEach es X.env := by rfl) (hpl : (backTo pos (starEach es X.env)).any (·.1) = false := by rfl) : JL X R ρ (.Call (.Name x p) (e :: es) [] pos) (fun q => Ts fun ds => lift (F ds) q) :=
  PE.imp (pe_callTy hr hg hm hv ha hn hdb he hpl) (call_readL hF)
end
/-- one argument, two -/
def F1 {β : Type} (f : D → Option β) : List D → Option β
  | [x] => f x
  | _ => none
def F2 {β : Type} (f : D → D → Option β) : List D → Option β
  | [x, y] => f x y
  | _ => none
def F3 {β : Type} (f : D → D → D → Option β) : List D → Option β
  | [x, y, z] => f x y z
  | _ => none
def F4 {β : Type} (f : D → D → D → D → Option β) : List D → Option β
  | [x, y, z, u] => f x y z u
  | _ => none
def F5 {β : Type} (f : D → D → D → D → D → Option β) : List D → Option β
  | [x, y, z, u, v] => f x y z u v
  | _ => none
def F6 {β : Type} (f : D → D → D → D → D → D → Option β) : List D → Option β
  | [x, y, z, u, v, w] => f x y z u v w
  | _ => none
abbrev C1 {β : Type} (f : D → Option β) (o : Option D) : Option β := o.bind f
abbrev C2 {β : Type} (f : D → D → Option β) (o1 o2 : Option D) : Option β := o1.bind fun x => o2.bind fun y => f x y
abbrev C3 {β : Type} (f : D → D → D → Option β) (o1 o2 o3 : Option D) : Option β := o1.bind fun x => o2.bind fun y => o3.bind fun z => f x y z
abbrev C4 {β : Type} (f : D → D → D → D → Option β) (o1 o2 o3 o4 : Option D) : Option β := o1.bind fun x => o2.bind fun y => o3.bind fun z => o4.bind fun u => f x y z u
abbrev C5 {β : Type} (f : D → D → D → D → D → Option β) (o1 o2 o3 o4 o5 : Option D) : Option β := o1.bind fun x => o2.bind fun y => o3.bind fun z => o4.bind fun u => o5.bind fun v => f x y z u v
abbrev C6 {β : Type} (f : D → D → D → D → D → D → Option β) (o1 o2 o3 o4 o5 o6 : Option D) : Option β := o1.bind fun x => o2.bind fun y => o3.bind fun z => o4.bind fun u => o5.bind fun v => o6.bind fun w => f x y z u v w
theorem c1_eq {β : Type} (f : D → Option β) (o1 : Option D) : (consO o1 (some [])).bind (F1 f) = C1 f o1 := by cases o1 <;> rfl
theorem c2_eq {β : Type} (f : D → D → Option β) (o1 o2 : Option D) : (consO o1 (consO o2 (some []))).bind (F2 f) = C2 f o1 o2 := by cases o1 <;> cases o2 <;> rfl
theorem c3_eq {β : Type} (f : D → D → D → Option β) (o1 o2 o3 : Option D) : (consO o1 (consO o2 (consO o3 (some [])))).bind (F3 f) = C3 f o1 o2 o3 := by cases o1 <;> cases o2 <;> cases o3 <;> rfl
theorem c4_eq {β : Type} (f : D → D → D → D → Option β) (o1 o2 o3 o4 : Option D) : (consO o1 (consO o2 (consO o3 (consO o4 (some []))))).bind (F4 f) = C4 f o1 o2 o3 o4 := by cases o1 <;> cases o2 <;> cases o3 <;> cases o4 <;> rfl
theorem c5_eq {β : Type} (f : D → D → D → D → D → Option β) (o1 o2 o3 o4 o5 : Option D) : (consO o1 (consO o2 (consO o3 (consO o4 (consO o5 (some [])))))).bind (F5 f) = C5 f o1 o2 o3 o4 o5 := by cases o1 <;> cases o2 <;> cases o3 <;> cases o4 <;> cases o5 <;> rfl
theorem c6_eq {β : Type} (f : D → D → D → D → D → D → Option β) (o1 o2 o3 o4 o5 o6 : Option D) : (consO o1 (consO o2 (consO o3 (consO o4 (consO o5 (consO o6 (some []))))))).bind (F6 f) = C6 f o1 o2 o3 o4 o5 o6 := by cases o1 <;> cases o2 <;> cases o3 <;> cases o4 <;> cases o5 <;> cases o6 <;> rfl
theorem JM.eq {X : Cx} {R : Res} {ρ : List Cell} {e : Expr} {o o' : Option D} (h : JE X R ρ e o) (k : o = o') : JE X R ρ e o' := by rw [← k]; exact h
theorem JL.eq {X : Cx} {R : Res} {ρ : List Cell} {e : Expr} {o o' : Option (List D)} (h : JLE X R ρ e o) (k : o = o') : JLE X R ρ e o' := by rw [← k]; exact h
theorem JT.eq {X : Cx} {R : Res} {ρ : List Cell} {e : Expr} {o o' : Option Bool} (h : JTE X R ρ e o) (k : o = o') : JTE X R ρ e o' := by rw [← k]; exact h
/-- a meaning of its arguments, in the pure form -/
theorem liftF {β : Type} {F : List D → Option β} {os : Option (List D)} {q : β → Nat → Prop} {m : Nat} (h : lift (os.bind F) q m) : lift os (fun ds => lift (F ds) q) m := lift1 h

/-! ### the built-ins' meanings -/
def dLen : D → Option D
  | .list xs => some (.int xs.length)
  | .tuple xs => some (.int xs.length)
  | _ => none
theorem cd_len {K : PySem.W.Frag} : CallD (fun xs H Q => ∃ p ys, xs = [.ref p] ∧ (SqL K H p ys ∨ SqT K H p ys) ∧ Q (.int ys.length) H) (F1 dLen) := by
  intro G H vs ds z Q gh r hF k
  cases r with
  | nil => cases hF
  | cons a b =>
    cases b with
    | cons _ _ => cases hF
    | nil =>
      cases a with
      | @lst p vs ds hp r =>
        cases hF
        refine ⟨p, vs, rfl, .inl (SqL.of (gh _ _ hp)), k _ G H (Grow.refl _ _ _) gh ?_⟩
        rw [r.length]; exact .int _
      | @tup p vs ds hp r =>
        cases hF
        refine ⟨p, vs, rfl, .inr (SqT.of (gh _ _ hp)), k _ G H (Grow.refl _ _ _) gh ?_⟩
        rw [r.length]; exact .int _
      | _ => cases hF
def dInt : D → Option D
  | .int i => some (.int i)
  | .bool b => some (.int (if b then 1 else 0))
  | _ => none
theorem cd_int : CallD (fun xs H Q => (∃ i, xs = [.int i] ∧ Q (.int i) H) ∨ ∃ k, xs = [.bl k] ∧ Q (.int (if k then 1 else 0)) H) (F1 dInt) := by
  intro G H vs ds z Q gh r hF k
  cases r with
  | nil => cases hF
  | cons a b =>
    cases b with
    | cons _ _ => cases hF
    | nil =>
      cases a with
      | int i => cases hF; exact .inl ⟨i, rfl, k _ G H (Grow.refl _ _ _) gh (.int _)⟩
      | bl i => cases hF; exact .inr ⟨i, rfl, k _ G H (Grow.refl _ _ _) gh (.int _)⟩
      | _ => cases hF
def dMax2 : D → D → Option D
  | .int i, .int j => some (.int (if j > i then j else i))
  | _, _ => none
def dMin2 : D → D → Option D
  | .int i, .int j => some (.int (if j < i then j else i))
  | _, _ => none
theorem cd_2i {g : Int → Int → Int} {f : D → D → Option D} (h0 : ∀ i j, f (.int i) (.int j) = some (.int (g i j))) (h1 : ∀ d e z, f d e = some z → ∃ i j, d = .int i ∧ e = .int j) : CallD (fun xs H Q => ∃ i j, xs = [.int i, .int j] ∧ Q (.int (g i j)) H) (F2 f) := by
  intro G H vs ds z Q gh r hF k
  cases r with
  | nil => cases hF
  | cons a b =>
    cases b with
    | nil => cases hF
    | cons b c =>
      cases c with
      | cons _ _ => cases hF
      | nil =>
        obtain ⟨i, j, rfl, rfl⟩ := h1 _ _ _ hF
        rw [show F2 f [.int i, .int j] = f (.int i) (.int j) from rfl, h0] at hF
        cases hF
        cases a
        cases b
        exact ⟨i, j, rfl, k _ G H (Grow.refl _ _ _) gh (.int _)⟩
theorem dMax2_is (d e z : D) (h : dMax2 d e = some z) : ∃ i j, d = .int i ∧ e = .int j := by
  cases d <;> cases e <;> first | (cases h; done) | exact ⟨_, _, rfl, rfl⟩
theorem dMin2_is (d e z : D) (h : dMin2 d e = some z) : ∃ i j, d = .int i ∧ e = .int j := by
  cases d <;> cases e <;> first | (cases h; done) | exact ⟨_, _, rfl, rfl⟩
theorem cd_max2 : CallD (fun xs H Q => ∃ i j, xs = [.int i, .int j] ∧ Q (.int (if j > i then j else i)) H) (F2 dMax2) := cd_2i (fun _ _ => rfl) dMax2_is
theorem cd_min2 : CallD (fun xs H Q => ∃ i j, xs = [.int i, .int j] ∧ Q (.int (if j < i then j else i)) H) (F2 dMin2) := cd_2i (fun _ _ => rfl) dMin2_is
/-- tuple(..) of a list or a tuple, list(..) -/
def dTup : D → Option D
  | .list xs => some (.tuple xs)
  | .tuple xs => some (.tuple xs)
  | _ => none
theorem cd_tuple {K : PySem.W.Frag} : CallD (fun xs H Q => ∃ p ys, xs = [.ref p] ∧ ((SqL K H p ys ∧ ∀ l, H l = none → Q (.ref l) (upd H l (.tup ys))) ∨ (SqT K H p ys ∧ Q (.ref p) H))) (F1 dTup) := by
  intro G H vs ds z Q gh r hF k
  cases r with
  | nil => cases hF
  | cons a b =>
    cases b with
    | cons _ _ => cases hF
    | nil =>
      cases a with
      | @lst p vs ds hp r =>
        cases hF
        refine ⟨p, vs, rfl, .inl ⟨SqL.of (gh _ _ hp), fun l hl => ?_⟩⟩
        obtain ⟨g, s⟩ := grow_new gh hl (.tup vs)
        exact k _ _ _ g s (.tup upd_same (r.mono g.gg))
      | @tup p vs ds hp r =>
        cases hF
        exact ⟨p, vs, rfl, .inr ⟨SqT.of (gh _ _ hp), k _ G H (Grow.refl _ _ _) gh (.tup hp r)⟩⟩
      | _ => cases hF
def dItems : D → Option (List D)
  | .list xs => some xs
  | .tuple xs => some xs
  | _ => none
theorem cd_list {K : PySem.W.Frag} : CallDL (fun xs H Q => ∃ p ys, xs = [.ref p] ∧ (SqL K H p ys ∨ SqT K H p ys) ∧ ∀ l, H l = none → Q (.ref l) (upd H l (.lst ys))) (F1 dItems) := by
  intro G H vs ds z Q gh r hF k
  cases r with
  | nil => cases hF
  | cons a b =>
    cases b with
    | cons _ _ => cases hF
    | nil =>
      cases a with
      | @lst p vs ds hp r =>
        cases hF
        refine ⟨p, vs, rfl, .inl (SqL.of (gh _ _ hp)), fun l hl => ?_⟩
        obtain ⟨g, s⟩ := grow_own gh hl (.lst vs)
        exact k l vs G _ g s hl (gh.free hl) upd_same r
      | @tup p vs ds hp r =>
        cases hF
        refine ⟨p, vs, rfl, .inr (SqT.of (gh _ _ hp)), fun l hl => ?_⟩
        obtain ⟨g, s⟩ := grow_own gh hl (.lst vs)
        exact k l vs G _ g s hl (gh.free hl) upd_same r
      | _ => cases hF
/-- all(..), any(..), sum(..) of a list -/
def blsOf : List D → Option (List Bool)
  | [] => some []
  | .bool b :: r => (blsOf r).map (b :: ·)
  | _ => none
theorem blsOf_eq : ∀ {ds : List D} {bs : List Bool}, blsOf ds = some bs → ds = bs.map PyData.bool
  | [], ns, h => by cases h; rfl
  | .bool i :: r, ns, h => by
    simp only [blsOf, Option.map_eq_some_iff] at h
    obtain ⟨k, h1, rfl⟩ := h
    rw [blsOf_eq h1]; rfl
  | .none :: _, _, h => by cases h
  | .int _ :: _, _, h => by cases h
  | .str _ :: _, _, h => by cases h
  | .list _ :: _, _, h => by cases h
  | .tuple _ :: _, _, h => by cases h
  | .dict _ :: _, _, h => by cases h
theorem blsOf_map : ∀ (bs : List Bool), blsOf (bs.map PyData.bool) = some bs
  | [] => rfl
  | n :: r => by simp [blsOf, blsOf_map r]
theorem RpL.bls {G : Hp} : ∀ {ns : List Bool} {vs : List V}, RpL G vs (ns.map PyData.bool) → vs = ns.map V.bl
  | [], _, h => by cases h; rfl
  | n :: ns, _, h => by
    cases h with
    | cons a b => cases a; rw [RpL.bls b]; rfl
def dAny : D → Option D
  | .list xs => (blsOf xs).map fun bs => .bool (bs.any id)
  | _ => none
def dAll : D → Option D
  | .list xs => (blsOf xs).map fun bs => .bool (bs.all id)
  | _ => none
def dSum : D → Option D
  | .list xs => (intsOf xs).map fun ns => .int ns.sum
  | .tuple xs => (intsOf xs).map fun ns => .int ns.sum
  | _ => none
theorem cd_any {K : PySem.W.Frag} : CallD (rAny K) (F1 dAny) := by
  intro G H vs ds z Q gh r hF k
  cases r with
  | nil => cases hF
  | cons a b =>
    cases b with
    | cons _ _ => cases hF
    | nil =>
      cases a with
      | @lst p vs ds hp r =>
        obtain ⟨bs, h1, rfl⟩ := Option.map_eq_some_iff.mp (show (blsOf ds).map _ = some z from hF)
        have e := blsOf_eq h1
        subst e
        have e := r.bls
        subst e
        exact ⟨p, bs, rfl, SqL.of (gh _ _ hp), k _ G H (Grow.refl _ _ _) gh (.bl _)⟩
      | _ => cases hF
theorem cd_all {K : PySem.W.Frag} : CallD (rAll K) (F1 dAll) := by
  intro G H vs ds z Q gh r hF k
  cases r with
  | nil => cases hF
  | cons a b =>
    cases b with
    | cons _ _ => cases hF
    | nil =>
      cases a with
      | @lst p vs ds hp r =>
        obtain ⟨bs, h1, rfl⟩ := Option.map_eq_some_iff.mp (show (blsOf ds).map _ = some z from hF)
        have e := blsOf_eq h1
        subst e
        have e := r.bls
        subst e
        exact ⟨p, bs, rfl, SqL.of (gh _ _ hp), k _ G H (Grow.refl _ _ _) gh (.bl _)⟩
      | _ => cases hF

/-! ### isinstance -/
def tyOf : D → String
  | .none => "NoneType" | .bool _ => "bool" | .int _ => "int" | .str _ => "str" | .list _ => "list" | .tuple _ => "tuple" | .dict _ => "dict"
def isTyS (c t : String) : Bool := t == c || (c == "int" && t == "bool")
def isTy (c : String) (d : D) : Bool := isTyS c (tyOf d)
theorem kit_tab : (["NoneType", "bool", "int", "str", "list", "tuple", "dict"].all fun t => ["int", "bool", "str", "list", "tuple", "dict"].all fun c => kitB t c == some (isTyS c t)) = true := by decide +kernel
theorem tyOf_mem (d : D) : tyOf d ∈ ["NoneType", "bool", "int", "str", "list", "tuple", "dict"] := by cases d <;> simp [tyOf]
def clsOk (c : String) : Bool := c == "int" || c == "bool" || c == "str" || c == "list" || c == "tuple" || c == "dict"
theorem kit_d {K : PySem.W.Frag} (d : D) {c : String} (h : clsOk c = true) : PySem.W.kitOne K (.type (tyOf d)) (.type c) = some (isTy c d) := by
  have hc : c ∈ ["int", "bool", "str", "list", "tuple", "dict"] := by
    simp only [clsOk, Bool.or_eq_true, beq_iff_eq] at h
    simp only [List.mem_cons, List.not_mem_nil, or_false]
    rcases h with ((((h | h) | h) | h) | h) | h <;> simp [h]
  exact kit_ty (beq_iff_eq.mp (List.all_eq_true.mp (List.all_eq_true.mp kit_tab _ (tyOf_mem d)) _ hc))
theorem tyx_of {K : PySem.W.Frag} {G H : Hp} {v : V} {d : D} (gh : Same G H) (r : Rp G v d) : TyX K H v (.type (tyOf d)) := by
  cases r with
  | non => exact .base .non
  | bl b => exact .base (.bl b)
  | int i => exact .base (.int i)
  | str z => exact .base (.str z)
  | lst h _ => exact .base (.lst (gh _ _ h))
  | tup h _ => exact .base (.tup (gh _ _ h))
section
variable {X : Cx} {R : Res} {ρ : List Cell} {e a b c : Expr} {pos p p2 p3 : Pos} {T : M D} {c1 c2 : Str} {n1 n2 : String}
theorem jm_isi (ha : JM X R ρ a T) (hm : X.mg "isinstance" = none) (hm1 : X.mg c1 = none) (hv1 : bootBuiltins c1 = some (.type n1)) (hc : clsOk n1 = true) (hg : Gl X "isinstance" := by rfl) (hg1 : Gl X c1 := by rfl) (hn1 : c1 ≠ "__name__" := by decide) (hd1 : (c1 == ("__debug__" : Str)) = false := by decide)
    (hs : starEach [a, .Name c1 p2] X.env = (false, eval a X.env) :: starEach [.Name c1 p2] X.env := by rfl) (hs2 : starEach [.Name c1 p2] X.env = (false, eval (.Name c1 p2) X.env) :: starEach [] X.env := by rfl) (hpl : (backTo pos (starEach [.Name c1 p2] X.env)).any (·.1) = false := by rfl) :
    JM X R ρ (.Call (.Name "isinstance" p) [a, .Name c1 p2] [] pos) (fun q => T fun d => q (.bool (isTy n1 d))) := by
  refine PE.imp (pe_callB call_isi hg hm (by decide +kernel) (pa_cons ha (pa_cons (pe_bltn (v := .ty n1) hg1 hm1 hv1 rfl hn1 hd1) pa_nil hs2) hs) (by decide) (by decide) hs hpl) fun σ H Q ⟨G, m, q, S, t, k⟩ => ⟨G, m, _, S, t, fun v d G1 H1 m1 S1 g1 r1 q1 => ?_⟩
  exact ⟨v, .ty n1, .type (tyOf d), .type n1, _, rfl, .ty n1, tyx_of S1.gh r1, kit_d d hc, k _ _ G1 H1 m1 S1 g1 (.bl _) q1⟩
theorem jm_isi2 (ha : JM X R ρ a T) (hm : X.mg "isinstance" = none) (hm1 : X.mg c1 = none) (hv1 : bootBuiltins c1 = some (.type n1)) (hc : clsOk n1 = true) (hm2 : X.mg c2 = none) (hv2 : bootBuiltins c2 = some (.type n2)) (hc2 : clsOk n2 = true) (hg : Gl X "isinstance" := by rfl)
    (hg1 : Gl X c1 := by rfl) (hn1 : c1 ≠ "__name__" := by decide) (hd1 : (c1 == ("__debug__" : Str)) = false := by decide) (hg2 : Gl X c2 := by rfl) (hn2 : c2 ≠ "__name__" := by decide) (hd2 : (c2 == ("__debug__" : Str)) = false := by decide) {x1 : Nat} {p4 : Pos}
    (hs : starEach [a, .Tuple [.Name c1 p2, .Name c2 p3] x1 p4] X.env = (false, eval a X.env) :: starEach [.Tuple [.Name c1 p2, .Name c2 p3] x1 p4] X.env := by rfl) (hs2 : starEach [.Tuple [.Name c1 p2, .Name c2 p3] x1 p4] X.env = (false, eval (.Tuple [.Name c1 p2, .Name c2 p3] x1 p4) X.env) :: starEach [] X.env := by rfl)
    (hs3 : starEach [.Name c1 p2, .Name c2 p3] X.env = (false, eval (.Name c1 p2) X.env) :: starEach [.Name c2 p3] X.env := by rfl) (hs4 : starEach [.Name c2 p3] X.env = (false, eval (.Name c2 p3) X.env) :: starEach [] X.env := by rfl)
    (hpl : (backTo pos (starEach [.Tuple [.Name c1 p2, .Name c2 p3] x1 p4] X.env)).any (·.1) = false := by rfl) :
    JM X R ρ (.Call (.Name "isinstance" p) [a, .Tuple [.Name c1 p2, .Name c2 p3] x1 p4] [] pos) (fun q => T fun d => q (.bool (isTy n1 d || isTy n2 d))) := by
  refine PE.imp (pe_callB call_isiT hg hm (by decide +kernel) (pa_cons ha (pa_cons (pe_tup (pa_cons (pe_bltn (v := .ty n1) hg1 hm1 hv1 rfl hn1 hd1) (pa_cons (pe_bltn (v := .ty n2) hg2 hm2 hv2 rfl hn2 hd2) pa_nil hs4) hs3)) pa_nil hs2) hs) (by decide) (by decide) hs hpl)
    fun σ H Q ⟨G, m, q, S, t, k⟩ => ⟨G, m, _, S, t, fun v d G1 H1 m1 S1 g1 r1 q1 => ⟨(by show 2 ≤ sizeLine; decide), fun tp htp => ?_⟩⟩
  obtain ⟨g2, s2⟩ := grow_new S1.gh htp (.tup [.ty n1, .ty n2])
  obtain ⟨S2, g2'⟩ := S1.growS g2 s2
  refine ⟨v, tp, _, .type (tyOf d), [.type n1, .type n2], _, rfl, upd_same, .cons (.ty n1) (.cons (.ty n2) .nil), tyx_of S2.gh (r1.mono g2.gg), ?_, k _ _ _ _ m1 S2 (g1.trans S1.vh g2') (.bl _) q1⟩
  refine kitAny_cons (kit_d d hc) (fun h1 => kitAny_cons (kit_d d hc2) (fun h2 => ?_) fun h2 => ?_) fun h1 => ?_
  · rw [kitAny_nil, h1, h2]; rfl
  · rw [h1, h2]; rfl
  · rw [h1]; rfl
theorem je_isi {o : Option D} (ha : JE X R ρ a o) (hm : X.mg "isinstance" = none) (hm1 : X.mg c1 = none) (hv1 : bootBuiltins c1 = some (.type n1)) (hc : clsOk n1 = true) (hg : Gl X "isinstance" := by rfl) (hg1 : Gl X c1 := by rfl) (hn1 : c1 ≠ "__name__" := by decide) (hd1 : (c1 == ("__debug__" : Str)) = false := by decide)
    (hs : starEach [a, .Name c1 p2] X.env = (false, eval a X.env) :: starEach [.Name c1 p2] X.env := by rfl) (hs2 : starEach [.Name c1 p2] X.env = (false, eval (.Name c1 p2) X.env) :: starEach [] X.env := by rfl) (hpl : (backTo pos (starEach [.Name c1 p2] X.env)).any (·.1) = false := by rfl) :
    JE X R ρ (.Call (.Name "isinstance" p) [a, .Name c1 p2] [] pos) (o.map fun d => .bool (isTy n1 d)) := (jm_isi ha hm hm1 hv1 hc hg hg1 hn1 hd1 hs hs2 hpl).imp fun q m ⟨z, h1, h2⟩ => by
  obtain ⟨d, h3, h4⟩ := Option.map_eq_some_iff.mp h1
  subst h4
  exact ⟨d, h3, h2⟩
theorem je_isi2 {o : Option D} (ha : JE X R ρ a o) (hm : X.mg "isinstance" = none) (hm1 : X.mg c1 = none) (hv1 : bootBuiltins c1 = some (.type n1)) (hc : clsOk n1 = true) (hm2 : X.mg c2 = none) (hv2 : bootBuiltins c2 = some (.type n2)) (hc2 : clsOk n2 = true) (hg : Gl X "isinstance" := by rfl)
    (hg1 : Gl X c1 := by rfl) (hn1 : c1 ≠ "__name__" := by decide) (hd1 : (c1 == ("__debug__" : Str)) = false := by decide) (hg2 : Gl X c2 := by rfl) (hn2 : c2 ≠ "__name__" := by decide) (hd2 : (c2 == ("__debug__" : Str)) = false := by decide) {x1 : Nat} {p4 : Pos}
    (hs : starEach [a, .Tuple [.Name c1 p2, .Name c2 p3] x1 p4] X.env = (false, eval a X.env) :: starEach [.Tuple [.Name c1 p2, .Name c2 p3] x1 p4] X.env := by rfl) (hs2 : starEach [.Tuple [.Name c1 p2, .Name c2 p3] x1 p4] X.env = (false, eval (.Tuple [.Name c1 p2, .Name c2 p3] x1 p4) X.env) :: starEach [] X.env := by rfl)
    (hs3 : starEach [.Name c1 p2, .Name c2 p3] X.env = (false, eval (.Name c1 p2) X.env) :: starEach [.Name c2 p3] X.env := by rfl) (hs4 : starEach [.Name c2 p3] X.env = (false, eval (.Name c2 p3) X.env) :: starEach [] X.env := by rfl)
    (hpl : (backTo pos (starEach [.Tuple [.Name c1 p2, .Name c2 p3] x1 p4] X.env)).any (·.1) = false := by rfl) :
    JE X R ρ (.Call (.Name "isinstance" p) [a, .Tuple [.Name c1 p2, .Name c2 p3] x1 p4] [] pos) (o.map fun d => .bool (isTy n1 d || isTy n2 d)) := (jm_isi2 ha hm hm1 hv1 hc hm2 hv2 hc2 hg hg1 hn1 hd1 hg2 hn2 hd2 hs hs2 hs3 hs4 hpl).imp fun q m ⟨z, h1, h2⟩ => by
  obtain ⟨d, h3, h4⟩ := Option.map_eq_some_iff.mp h1
  subst h4
  exact ⟨d, h3, h2⟩
end
end Dl

set_option Elab.async false
set_option linter.all false
set_option autoImplicit false
set_option maxRecDepth 100000
set_option maxHeartbeats 1000000
namespace Dl
open PySem L2

/-! ### stores to slots -/
section
variable {R : Res} {σ : L2.St} {ρ : List Cell} {G H : Hp} {m : Nat}
theorem own_set {ρ : List Cell} {i j : Nat} {c : Cell} {ds : List D} (hc : ∀ ds, c ≠ .own ds) (h : (ρ.set i c)[j]? = some (.own ds)) : j ≠ i ∧ ρ[j]? = some (.own ds) := by
  by_cases e : i = j
  · subst e
    by_cases hl : i < ρ.length
    · rw [List.getElem?_set_self hl] at h
      exact absurd (Option.some.inj h) (hc ds)
    · rw [List.getElem?_eq_none (by simpa using hl)] at h; cases h
  · rw [List.getElem?_set_ne e] at h
    exact ⟨fun z => e z.symm, h⟩
theorem Sit.setC (S : Sit R σ ρ G H m) (i : Nat) (o : Option V) (c : Cell) (hc : ∀ ds, c ≠ .own ds) (h : CellR R G H (some o) c) : Sit R (σ.set i o) (ρ.set i c) G H m := by
  refine ⟨S.toSat, by simp [S.len], fun j d e => ?_, fun j k ds es l e1 e2 e3 e4 => ?_⟩
  · by_cases hj : i = j
    · subst hj
      by_cases hl : i < ρ.length
      · rw [List.getElem?_set_self hl] at e
        cases e
        rw [List.getElem?_set_self (by rw [S.len]; exact hl)]
        exact h
      · rw [List.getElem?_eq_none (by simpa using hl)] at e; cases e
    · rw [List.getElem?_set_ne hj] at e ⊢
      exact S.cell j d e
  · obtain ⟨n1, e1⟩ := own_set hc e1
    obtain ⟨n2, e2⟩ := own_set hc e2
    rw [List.getElem?_set_ne (Ne.symm n1)] at e3
    rw [List.getElem?_set_ne (Ne.symm n2)] at e4
    exact S.apart j k ds es l e1 e2 e3 e4
theorem Sit.setD (S : Sit R σ ρ G H m) (i : Nat) {v : V} {d : D} (r : Rp G v d) : Sit R (σ.set i (some v)) (ρ.set i (.dat d)) G H m :=
  S.setC i _ _ (fun _ z => nomatch z) ⟨v, rfl, r⟩
/-- a new list, nobody else's, to a slot -/
theorem Sit.setO (S : Sit R σ ρ G H m) (i : Nat) {l : Addr} {vs : List V} {ds : List D} (gl : G l = none) (nv : ¬ R.vol l) (en : R.ent l = none) (hl : H l = some (.lst vs)) (r : RpL G vs ds)
    (new : ∀ (j : Nat) (es : List D), ρ[j]? = some (.own es) → σ[j]? ≠ some (some (.ref l))) : Sit R (σ.set i (some (.ref l))) (ρ.set i (.own ds)) G H m := by
  refine ⟨S.toSat, by simp [S.len], fun j d e => ?_, fun j k es fs l' e1 e2 e3 e4 => ?_⟩
  · by_cases hj : i = j
    · subst hj
      by_cases hi : i < ρ.length
      · rw [List.getElem?_set_self hi] at e
        cases e
        rw [List.getElem?_set_self (by rw [S.len]; exact hi)]
        exact ⟨l, vs, rfl, gl, nv, en, hl, r⟩
      · rw [List.getElem?_eq_none (by simpa using hi)] at e; cases e
    · rw [List.getElem?_set_ne hj] at e ⊢
      exact S.cell j d e
  · by_cases h1 : i = j
    · by_cases h2 : i = k
      · rw [← h1, ← h2]
      · subst h1
        rw [List.getElem?_set_ne h2] at e2 e4
        by_cases hi : i < σ.length
        · rw [List.getElem?_set_self hi] at e3
          cases e3
          exact absurd e4 (new k fs e2)
        · rw [List.getElem?_eq_none (by simpa using hi)] at e3; cases e3
    · by_cases h2 : i = k
      · subst h2
        rw [List.getElem?_set_ne h1] at e1 e3
        by_cases hi : i < σ.length
        · rw [List.getElem?_set_self hi] at e4
          cases e4
          exact absurd e3 (new j es e1)
        · rw [List.getElem?_eq_none (by simpa using hi)] at e4; cases e4
      · rw [List.getElem?_set_ne h1] at e1 e3
        rw [List.getElem?_set_ne h2] at e2 e4
        exact S.apart j k es fs l' e1 e2 e3 e4
/-- an owned list is written -/
theorem Sit.write (S : Sit R σ ρ G H m) {i : Nat} {l : Addr} {ds es : List D} {vs : List V} (hρ : ρ[i]? = some (.own ds)) (hσ : σ[i]? = some (some (.ref l))) (r : RpL G vs es) :
    Sit R σ (ρ.set i (.own es)) G (upd H l (.lst vs)) m ∧ ∀ {G0 H0 : Hp}, H0 l = none → Grow R.vol G0 H0 G H → Grow R.vol G0 H0 G (upd H l (.lst vs)) := by
  obtain ⟨l', ws, e, gl, nv, en, hl, _⟩ := S.ownT hρ
  rw [hσ] at e
  cases e
  have hi : i < ρ.length := (List.getElem?_eq_some_iff.mp hρ).1
  refine ⟨⟨⟨fun a o h => ?_, S.vg, fun a v => ?_, S.js, R.dm (fun a v => upd_ne fun z => nv (z ▸ v)) S.jd, fun p hp => ?_⟩, by simp [S.len], fun j c e => ?_, fun j k fs gs l' e1 e2 e3 e4 => ?_⟩, fun h0 g => ⟨g.gg, fun a o n h => ?_, g.new⟩⟩
  · rw [upd_ne (ne_of_none h gl)]; exact S.gh a o h
  · by_cases z : a = l
    · subst z; rw [upd_same]; exact fun z => nomatch z
    · rw [upd_ne z]; exact S.vh a v
  · by_cases z : p = l
    · rw [z]; exact en
    · rw [upd_ne z] at hp; exact S.en p hp
  · by_cases hj : i = j
    · subst hj
      rw [List.getElem?_set_self hi] at e
      cases e
      exact ⟨l, vs, hσ, gl, nv, en, upd_same, r⟩
    · rw [List.getElem?_set_ne hj] at e
      have q := S.cell j c e
      cases c with
      | no => trivial
      | dat d => exact q
      | raw v => exact q
      | own fs =>
        obtain ⟨l2, vs2, q1, q2, q3, q6, q4, q5⟩ := q
        refine ⟨l2, vs2, q1, q2, q3, q6, ?_, q5⟩
        rw [upd_ne (fun z => hj (S.apart i j ds fs l hρ e hσ (by rw [q1, z])))]
        exact q4
  · have h1 : ∃ es, ρ[j]? = some (.own es) := by
      by_cases z : i = j
      · subst z; exact ⟨_, hρ⟩
      · rw [List.getElem?_set_ne z] at e1; exact ⟨_, e1⟩
    have h2 : ∃ es, ρ[k]? = some (.own es) := by
      by_cases z : i = k
      · subst z; exact ⟨_, hρ⟩
      · rw [List.getElem?_set_ne z] at e2; exact ⟨_, e2⟩
    obtain ⟨_, h1⟩ := h1
    obtain ⟨_, h2⟩ := h2
    exact S.apart j k _ _ l' h1 h2 e3 e4
  · rw [upd_ne (ne_of_none h h0)]; exact g.hh a o n h
/-- cells forgotten -/
inductive Wk : List Cell → List Cell → Prop
  | nil : Wk [] []
  | same {c : Cell} {ρ ρ' : List Cell} : Wk ρ ρ' → Wk (c :: ρ) (c :: ρ')
  | no {c : Cell} {ρ ρ' : List Cell} : Wk ρ ρ' → Wk (c :: ρ) (.no :: ρ')
theorem Wk.len {ρ ρ' : List Cell} (h : Wk ρ ρ') : ρ.length = ρ'.length := by induction h <;> simp [*]
theorem Wk.at {ρ ρ' : List Cell} (h : Wk ρ ρ') : ∀ (i : Nat) (c : Cell), ρ'[i]? = some c → c = .no ∨ ρ[i]? = some c := by
  induction h with
  | nil => intro i c e; simp at e
  | same _ ih =>
    intro i c e
    cases i with
    | zero => exact .inr e
    | succ i => exact ih i c (by simpa using e)
  | no _ ih =>
    intro i c e
    cases i with
    | zero => simp at e; exact .inl e.symm
    | succ i => exact ih i c (by simpa using e)
theorem Sit.weak {ρ' : List Cell} (S : Sit R σ ρ G H m) (w : Wk ρ ρ') : Sit R σ ρ' G H m :=
  ⟨S.toSat, S.len.trans w.len, fun i c e => by
    rcases w.at i c e with rfl | h
    · trivial
    · exact S.cell i c h, fun i j ds es l e1 e2 => by
    rcases w.at i _ e1 with h1 | h1
    · cases h1
    · rcases w.at j _ e2 with h2 | h2
      · cases h2
      · exact S.apart i j ds es l h1 h2⟩
/-- the block's own slots forgotten -/
def wipeC (ρ : List Cell) : List Nat → List Cell
  | [] => ρ
  | v :: vs => (wipeC ρ vs).set v .no
theorem Sit.wipe (S : Sit R σ ρ G H m) : ∀ vs : List Nat, Sit R (wipe σ vs) (wipeC ρ vs) G H m
  | [] => S
  | v :: vs => (Sit.wipe S vs).setC v none .no (fun _ z => nomatch z) trivial
theorem wipe_at (σ : L2.St) : ∀ (vs : List Nat) (j : Nat), j < σ.length → j ∈ vs → (wipe σ vs)[j]? = some none
  | [], _, _, h => absurd h (by simp)
  | v :: vs, j, hl, h => by
    unfold L2.wipe
    by_cases e : v = j
    · subst e
      rw [List.getElem?_set_self (by rw [wipe_length]; exact hl)]
    · rw [List.getElem?_set_ne e]
      exact wipe_at σ vs j hl (by rcases List.mem_cons.mp h with z | z; exact absurd z.symm e; exact z)
theorem wipe_off (σ : L2.St) : ∀ (vs : List Nat) (j : Nat), j ∉ vs → (wipe σ vs)[j]? = σ[j]?
  | [], _, _ => rfl
  | v :: vs, j, h => by
    unfold L2.wipe
    rw [List.getElem?_set_ne (fun z => h (by simp [z]))]
    exact wipe_off σ vs j fun z => h (by simp [z])
theorem wipe_eq {σ σ2 : L2.St} {vs : List Nat} (hl : σ2.length = σ.length) (h : ∀ j, j ∉ vs → σ2[j]? = (wipe σ vs)[j]?) : wipe σ2 vs = wipe σ vs := by
  refine List.ext_getElem? fun j => ?_
  by_cases hj : j ∈ vs
  · by_cases hlt : j < σ.length
    · rw [wipe_at σ2 vs j (by omega) hj, wipe_at σ vs j hlt hj]
    · rw [List.getElem?_eq_none (by rw [wipe_length]; omega), List.getElem?_eq_none (by rw [wipe_length]; omega)]
  · rw [wipe_off σ2 vs j hj]; exact h j hj
end

/-! ### targets -/
def tG (R : Res) (sl : List Nat) (bd : List Cell → D → Option (List Cell)) : TG := fun v σ H Q => ∃ G m d ρ ρ', Sit R σ ρ G H m ∧ Rp G v d ∧ bd ρ d = some ρ' ∧ ∀ σ', Sit R σ' ρ' G H m → σ'.length = σ.length → (∀ j, j ∉ sl → σ'[j]? = σ[j]?) → Q σ' H
def tGs (R : Res) (sl : List Nat) (bd : List Cell → List D → Option (List Cell)) : TGs := fun vs σ H Q => ∃ G m ds ρ ρ', Sit R σ ρ G H m ∧ RpL G vs ds ∧ bd ρ ds = some ρ' ∧ ∀ σ', Sit R σ' ρ' G H m → σ'.length = σ.length → (∀ j, j ∉ sl → σ'[j]? = σ[j]?) → Q σ' H
def JG (X : Cx) (R : Res) (tg : Expr) (sl : List Nat) (bd : List Cell → D → Option (List Cell)) : Prop := PG X tg (tG R sl bd)
def JGs (X : Cx) (R : Res) (tgs : List Expr) (sl : List Nat) (bd : List Cell → List D → Option (List Cell)) : Prop := PGs X tgs (tGs R sl bd)
theorem PG.imp {X : Cx} {tg : Expr} {t t' : TG} (h : PG X tg t) (k : ∀ v σ H Q, t' v σ H Q → t v σ H Q) : PG X tg t' := ⟨fun pins s σ H v u Q I r q => h.run pins s σ H v u Q I r (k v σ H Q q)⟩
theorem PGs.imp {X : Cx} {tg : List Expr} {t t' : TGs} (h : PGs X tg t) (k : ∀ v σ H Q, t' v σ H Q → t v σ H Q) : PGs X tg t' := ⟨fun pins s σ H v u Q I r q => h.run pins s σ H v u Q I r (k v σ H Q q)⟩
def bd1 (i : Nat) (ρ : List Cell) (d : D) : Option (List Cell) := some (ρ.set i (.dat d))
def bds : List Nat → List Cell → List D → Option (List Cell)
  | [], ρ, [] => some ρ
  | i :: is, ρ, d :: ds => bds is (ρ.set i (.dat d)) ds
  | _, _, _ => none
def bdT (is : List Nat) (ρ : List Cell) : D → Option (List Cell)
  | .tuple ds => bds is ρ ds
  | _ => none
section
variable {X : Cx} {R : Res} {pos : Pos}
theorem jg_name {i : Nat} {x : Str} (hN : X.N.Nodup) (hi : X.N[i]? = some x := by rfl) (hx : Loc X.env.scope x := by first | exact Or.inl rfl | exact Or.inr rfl) (hf : X.fn x = true ∨ X.env.scope.names.lookup x = some .local := by first | exact .inl rfl | exact .inr rfl) : JG X R (.Name x pos) [i] (bd1 i) :=
  PG.imp (pg_name (i := i) hN hi hx hf) fun v σ H Q ⟨G, m, d, ρ, ρ', S, r, e, k⟩ => by
    cases e
    exact k _ (S.setD i r) (by simp) fun j hj => List.getElem?_set_ne (fun z => hj (by simp [z]))
theorem jgs_nil : JGs X R [] [] (bds []) := PGs.imp pgs_nil fun vs σ H Q ⟨G, m, ds, ρ, ρ', S, r, e, k⟩ => by
  cases ds with
  | nil =>
    cases e
    cases r
    exact ⟨rfl, k _ S rfl fun _ _ => rfl⟩
  | cons _ _ => cases e
theorem jgs_cons {i : Nat} {is : List Nat} {e : Expr} {es : List Expr} (h1 : JG X R e [i] (bd1 i)) (h2 : JGs X R es is (bds is)) (hs : (assignEach (e :: es) X.env).map (·.2) = assign e X.env :: (assignEach es X.env).map (·.2) := by rfl) : JGs X R (e :: es) (i :: is) (bds (i :: is)) :=
  PGs.imp (pgs_cons h1 h2 hs) fun vs σ H Q ⟨G, m, ds, ρ, ρ', S, r, eb, k⟩ => by
    cases ds with
    | nil => cases eb
    | cons d ds =>
      cases r with
      | @cons v vs _ _ a b =>
        refine ⟨v, vs, rfl, G, m, d, ρ, _, S, a, rfl, fun σ1 S1 l1 f1 => ⟨G, m, ds, _, ρ', S1, b, eb, fun σ2 S2 l2 f2 => k σ2 S2 (l2.trans l1) fun j hj => ?_⟩⟩
        rw [f2 j (fun z => hj (List.mem_cons_of_mem _ z)), f1 j (fun z => hj (by simp at z; simp [z]))]
theorem jg_tup {es : List Expr} {k n : Nat} {is : List Nat} (hc : X.calm = true) (h : JGs X R es is (bds is)) (hl : is.length = n := by rfl) (hn : (assignEach es X.env).length = n := by rfl) (hst : (assignEach es X.env).findIdx? (·.1) = none := by rfl) : JG X R (.Tuple es k pos) is (bdT is) :=
  PG.imp (pg_tup hc h hn hst) fun v σ H Q ⟨G, m, d, ρ, ρ', S, r, e, k⟩ => by
    cases r with
    | @tup p vs ds hp r =>
      refine ⟨p, vs, rfl, SqT.of (S.gh _ _ hp), ?_, G, m, ds, ρ, ρ', S, r, e, k⟩
      have key : ∀ {is : List Nat} {ρ ρ' : List Cell} {ds : List D}, bds is ρ ds = some ρ' → ds.length = is.length := by
        intro is
        induction is with
        | nil => intro ρ ρ' ds e; cases ds with | nil => rfl | cons _ _ => cases e
        | cons i is ih => intro ρ ρ' ds e; cases ds with | nil => cases e | cons d ds => simp [ih (show bds is (ρ.set i (.dat d)) ds = some ρ' from e)]
      rw [r.length, key (show bds is ρ ds = some ρ' from e), hl]
    | _ => cases e
end

/-! ### what is walked -/
structure IsWalk (G : Hp) (J : It) (ds : List D) : Prop where
  go : ∀ (i : Nat) (H : Hp), Same G H → i < ds.length → J.go i H
  stop : ∀ H : Hp, Same G H → J.stop ds.length H
  yld : ∀ (i : Nat) (H : Hp) (x : V) (H' : Hp), Same G H → i < ds.length → J.yld i H x H' → ∃ d, ds[i]? = some d ∧ ((H' = H ∧ Rp G x d) ∨ ∃ p vs es, x = .ref p ∧ H p = none ∧ H' = upd H p (.tup vs) ∧ d = .tuple es ∧ RpL G vs es)
def tI (R : Res) (ρ : List Cell) (T : M (List D)) : TI := fun σ H Rr => ∃ G m q, Sit R σ ρ G H m ∧ T q m ∧ ∀ J ds G' H' m', Sit R σ ρ G' H' m' → Grow R.vol G H G' H' → IsWalk G' J ds → q ds m' → Rr J H'
def JI (X : Cx) (R : Res) (ρ : List Cell) (tg iter : Expr) (T : M (List D)) : Prop := PI X tg iter (tI R ρ T)
theorem PI.imp {X : Cx} {tg iter : Expr} {t t' : TI} (h : PI X tg iter t) (k : ∀ σ H Q, t' σ H Q → t σ H Q) : PI X tg iter t' := ⟨fun pins s σ H Q I q => h.run pins s σ H Q I (k σ H Q q)⟩
section
variable {X : Cx} {R : Res} {ρ : List Cell} {tg e a b : Expr} {pos p : Pos}
theorem JI.imp {T T' : M (List D)} (h : JI X R ρ tg e T) (k : ∀ q m, T' q m → T q m) : JI X R ρ tg e T' := PI.imp h fun _ _ _ ⟨G, m, q, S, t, c⟩ => ⟨G, m, q, S, k q m t, c⟩
abbrev JIE (X : Cx) (R : Res) (ρ : List Cell) (tg e : Expr) (o : Option (List D)) : Prop := JI X R ρ tg e (lift o)
theorem walk_l {K : PySem.W.Frag} {G : Hp} {p : Addr} {vs : List V} {ds : List D} (hp : G p = some (.lst vs)) (r : RpL G vs ds) : IsWalk G (Itl K p) ds where
  go := fun i H s hi => by
    obtain ⟨v, hv, _⟩ := r.get (List.getElem?_eq_getElem hi)
    exact ⟨vs, v, SqL.of (s _ _ hp), hv⟩
  stop := fun H s => ⟨vs, SqL.of (s _ _ hp), by rw [r.length]; exact Nat.le_refl _⟩
  yld := fun i H x H' s hi y => by
    obtain ⟨d, hd, rd⟩ := r.getV (y.2 vs (SqL.of (s _ _ hp)))
    exact ⟨d, hd, .inl ⟨y.1, rd⟩⟩
theorem walk_t {K : PySem.W.Frag} {G : Hp} {p : Addr} {vs : List V} {ds : List D} (hp : G p = some (.tup vs)) (r : RpL G vs ds) : IsWalk G (Itt K p) ds where
  go := fun i H s hi => by
    obtain ⟨v, hv, _⟩ := r.get (List.getElem?_eq_getElem hi)
    exact ⟨vs, v, SqT.of (s _ _ hp), hv⟩
  stop := fun H s => ⟨vs, SqT.of (s _ _ hp), by rw [r.length]; exact Nat.le_refl _⟩
  yld := fun i H x H' s hi y => by
    obtain ⟨d, hd, rd⟩ := r.getV (y.2 vs (SqT.of (s _ _ hp)))
    exact ⟨d, hd, .inl ⟨y.1, rd⟩⟩
/-- a list or a tuple, whichever the value is -/
def iSeq (K : PySem.W.Frag) (tl : TE) : TI := fun σ H Rr => tl σ H fun x H1 => ∃ p, x = .ref p ∧ (((∃ vs, SqL K H1 p vs) ∧ Rr (Itl K p) H1) ∨ ((∃ vs, SqT K H1 p vs) ∧ Rr (Itt K p) H1))
theorem pi_seq {tl : TE} (hl : PE X e tl) : PI X tg e (iSeq X.K tl) := by
  refine ⟨fun pins s σ H Rr I h => thn (hl.run pins s σ H _ I h) fun v s1 hv => ?_⟩
  obtain ⟨x, H1, I1, r1, p, rfl, q⟩ := hv
  cases r1
  have fr : ∀ b ∈ [s1.heap.objs.size], FpOk X pins H1 b := fun b hb => by
    rw [List.mem_singleton.mp hb]
    exact I1.fpOk (Nat.le_refl _) (I1.hok.fresh (Nat.le_refl _))
  rcases q with ⟨⟨vs, hq⟩, q⟩ | ⟨⟨vs, hq⟩, q⟩
  · obtain ⟨its, _, pl, _⟩ := I1.list hq
    exact wpAny_pyIter_list pl.isList ⟨_, [s1.heap.objs.size], _, _, H1, rfl, I1.kept (t' := s1.toks) fun _ _ e => Heap.get?_push_of_some _ e, turn_list p _, ⟨_, Heap.get?_push_size _ rfl, rfl, rfl⟩, fr, q⟩
  · obtain ⟨its, _, pl, _⟩ := I1.tuple hq
    exact wpAny_pyIter_tuple (show s1.heap.IsTuple p its.toArray from pl) ⟨_, [s1.heap.objs.size], _, _, H1, rfl, I1.kept (t' := s1.toks) fun _ _ e => Heap.get?_push_of_some _ e, turn_tuple p _, ⟨_, Heap.get?_push_size _ rfl, rfl, rfl⟩, fr, q⟩
theorem ji_seq {T : M D} (h : JM X R ρ e T) : JI X R ρ tg e (fun q => T fun d => lift (dItems d) q) := by
  refine PI.imp (pi_seq h) fun σ H Rr ⟨G, m, q, S, t, k⟩ => ⟨G, m, _, S, t, fun v d G1 H1 m1 S1 g1 r1 q1 => ?_⟩
  obtain ⟨ds, hd, q1⟩ := q1
  cases r1 with
  | @lst p vs ds hp r =>
    cases hd
    exact ⟨p, rfl, .inl ⟨⟨vs, SqL.of (S1.gh _ _ hp)⟩, k _ _ G1 H1 m1 S1 g1 (walk_l hp r) q1⟩⟩
  | @tup p vs ds hp r =>
    cases hd
    exact ⟨p, rfl, .inr ⟨⟨vs, SqT.of (S1.gh _ _ hp)⟩, k _ _ G1 H1 m1 S1 g1 (walk_t hp r) q1⟩⟩
  | _ => cases hd
theorem jie_seq {o : Option D} (h : JE X R ρ e o) : JIE X R ρ tg e (o.bind dItems) := (ji_seq h).imp fun _ _ => lift1
/-- a new list -/
theorem ji_new {T : M (List D)} (h : JL X R ρ e T) : JI X R ρ tg e T := (ji_seq (JL.jm h)).imp fun q m t => by
  have e : (fun ds => lift (dItems (.list ds)) q) = q := by
    funext ds m
    exact lift_some ds q m
  show T (fun ds => lift (dItems (.list ds)) q) m
  rw [e]; exact t
/-- range(..) -/
def rangeD (lo n : Int) : List D := (List.range (n - lo).toNat).map fun (i : Nat) => .int (lo + i)
theorem rangeD_len (lo n : Int) : (rangeD lo n).length = (n - lo).toNat := by simp [rangeD]
theorem walk_r {G : Hp} {lo n : Int} : IsWalk G (Itr lo (n - lo).toNat) (rangeD lo n) where
  go := fun i H s hi => by rw [rangeD_len] at hi; exact hi
  stop := fun H s => by rw [rangeD_len]; exact Nat.le_refl _
  yld := fun i H x H' s hi y => by
    rw [rangeD_len] at hi
    exact ⟨.int (lo + i), by simp [rangeD, hi], .inl ⟨y.1, by rw [y.2]; exact .int _⟩⟩
def small62 (i : Int) : Bool := decide (-(2 ^ 62) ≤ i ∧ i < 2 ^ 62)
def dRange : List D → Option (List D)
  | [.int n] => if small62 n = true then some (rangeD 0 n) else none
  | [.int lo, .int n] => if small62 lo = true ∧ small62 n = true then some (rangeD lo n) else none
  | _ => none
theorem ji_range1 {Ts : M (List D)} (hm : X.mg "range" = none) (ha : JA X R ρ [a] 1 Ts) (hg : Gl X "range" := by rfl) (hs : starEach [a] X.env = [(false, eval a X.env)] := by rfl) : JI X R ρ tg (.Call (.Name "range" p) [a] [] pos) (fun q => Ts fun ds => lift (dRange ds) q) := by
  refine PI.imp (pi_range1 hg hm ha hs) fun σ H Rr ⟨G, m, q, S, t, k⟩ => ⟨G, m, _, S, t, fun vs ds G1 H1 m1 S1 g1 r1 l1 q1 => ?_⟩
  obtain ⟨es, hd, q1⟩ := q1
  match ds, r1, hd with
  | [.int n], .cons a .nil, hd =>
    cases a
    simp only [dRange, small62, decide_eq_true_eq, Option.ite_none_right_eq_some, Option.some.injEq] at hd
    obtain ⟨hz, rfl⟩ := hd
    refine ⟨n, rfl, hz.1, hz.2, ?_⟩
    have w : IsWalk G1 (Itr 0 (n - 0).toNat) (rangeD 0 n) := walk_r
    rw [Int.sub_zero] at w
    exact k _ _ G1 H1 m1 S1 g1 w q1
theorem ji_range2 {Ts : M (List D)} (hm : X.mg "range" = none) (ha : JA X R ρ [a, b] 2 Ts) (hg : Gl X "range" := by rfl) (hs : starEach [a, b] X.env = [(false, eval a X.env), (false, eval b X.env)] := by rfl) (hs2 : starEach [b] X.env = [(false, eval b X.env)] := by rfl) :
    JI X R ρ tg (.Call (.Name "range" p) [a, b] [] pos) (fun q => Ts fun ds => lift (dRange ds) q) := by
  refine PI.imp (pi_range2 hg hm ha hs hs2) fun σ H Rr ⟨G, m, q, S, t, k⟩ => ⟨G, m, _, S, t, fun vs ds G1 H1 m1 S1 g1 r1 l1 q1 => ?_⟩
  obtain ⟨es, hd, q1⟩ := q1
  match ds, r1, hd with
  | [.int lo, .int n], .cons a (.cons b .nil), hd =>
    cases a
    cases b
    simp only [dRange, small62, decide_eq_true_eq, Option.ite_none_right_eq_some, Option.some.injEq] at hd
    obtain ⟨hz, rfl⟩ := hd
    exact ⟨lo, n, rfl, ⟨hz.1.1, hz.1.2, hz.2.1, hz.2.2⟩, k _ _ G1 H1 m1 S1 g1 walk_r q1⟩
theorem jie_range1 {o : Option D} (hm : X.mg "range" = none) (ha : JE X R ρ a o) (hg : Gl X "range" := by rfl) (hs : starEach [a] X.env = [(false, eval a X.env)] := by rfl) : JIE X R ρ tg (.Call (.Name "range" p) [a] [] pos) (C1 (fun x => dRange [x]) o) :=
  (ji_range1 hm (jae_cons ha jae_nil hs) hg hs).imp fun q m h => liftF (by
    have e : C1 (fun x => dRange [x]) o = (consO o (some [])).bind dRange := by cases o <;> rfl
    rw [← e]; exact h)
theorem jie_range2 {o1 o2 : Option D} (hm : X.mg "range" = none) (ha : JE X R ρ a o1) (hb : JE X R ρ b o2) (hg : Gl X "range" := by rfl) (hs : starEach [a, b] X.env = [(false, eval a X.env), (false, eval b X.env)] := by rfl) (hs2 : starEach [b] X.env = [(false, eval b X.env)] := by rfl) :
    JIE X R ρ tg (.Call (.Name "range" p) [a, b] [] pos) (C2 (fun x y => dRange [x, y]) o1 o2) :=
  (ji_range2 hm (jae_cons ha (jae_cons hb jae_nil hs2) (by rw [hs, hs2])) hg hs hs2).imp fun q m h => liftF (by
    have e : C2 (fun x y => dRange [x, y]) o1 o2 = (consO o1 (consO o2 (some []))).bind dRange := by cases o1 <;> cases o2 <;> rfl
    rw [← e]; exact h)
end

/-! ### list comprehensions -/
def cM (f : D → M (Option D)) : List D → M (List D)
  | [] => fun q m => q [] m
  | d :: ds => fun q m => f d (fun o m1 => cM f ds (fun r m2 => q (match o with | some x => x :: r | none => r) m2) m1) m
def lcM (Ti : M (List D)) (f : D → M (Option D)) : M (List D) := fun q m => Ti (fun ds m1 => ds.length < sizeLine ∧ cM f ds q m1) m
/-- one turn: the test, then the element -/
def turnM (Tt : M Bool) (Te : M D) : M (Option D) := fun q m => Tt (fun t m1 => if t = true then Te (fun x m2 => q (some x) m2) m1 else q none m1) m
section
variable {X : Cx} {R : Res} {ρ : List Cell} {tg iter elt : Expr} {ifs : List Expr} {scope : Scope} {own : List (Str × Nat)} {pos : Pos}
def OkT (X : Cx) (R : Res) (scope : Scope) (ρ : List Cell) (ifs : List Expr) (T : M Bool) : Prop := ∀ (s : Shared) (H : Hp) (C : Addr) (cl : List (Str × Addr)) (fp : List Addr), PTs (X.blk s H scope (compEnvC scope cl C X.env) fp) ifs (tT R ρ T)
def OkE (X : Cx) (R : Res) (scope : Scope) (ρ : List Cell) (e : Expr) (T : M D) : Prop := ∀ (s : Shared) (H : Hp) (C : Addr) (cl : List (Str × Addr)) (fp : List Addr), JM (X.blk s H scope (compEnvC scope cl C X.env) fp) R ρ e T
theorem okT_nil : OkT X R scope ρ [] (fun q m => q true m) := fun s H C cl fp => ⟨fun pins s σ H Q I ⟨G, m, q, S, t, k⟩ => pts_nil.run pins s σ H Q I (k true G H m S (Grow.refl _ _ _) t)⟩
theorem okT_one {c : Expr} {T : M Bool} (h : ∀ (s : Shared) (H : Hp) (C : Addr) (cl : List (Str × Addr)) (fp : List Addr), JT (X.blk s H scope (compEnvC scope cl C X.env) fp) R ρ c T) : OkT X R scope ρ [c] T := fun s H C cl fp => pts_one (h s H C cl fp)
theorem Grow.back {vol : Addr → Prop} {G0 H0 G H : Hp} {p : Addr} {o : HO} (h0 : H0 p = none) (g : Grow vol G0 H0 G H) : Grow vol G0 H0 G (upd H p o) :=
  ⟨g.gg, fun a u n h => by rw [upd_ne (ne_of_none h h0)]; exact g.hh a u n h, g.new⟩
def ttAny (X : Cx) (R : Res) (scope : Scope) (ifs : List Expr) : TT := fun σ H Q => ∃ ρ' T, OkT X R scope ρ' ifs T ∧ tT R ρ' T σ H Q
def teAny (X : Cx) (R : Res) (scope : Scope) (e : Expr) : TE := fun σ H Q => ∃ ρ' T, OkE X R scope ρ' e T ∧ tJ R ρ' T σ H Q
theorem ttAny_ok (s : Shared) (H : Hp) (C : Addr) (cl : List (Str × Addr)) (fp : List Addr) : PTs (X.blk s H scope (compEnvC scope cl C X.env) fp) ifs (ttAny X R scope ifs) := ⟨fun pins s2 σ H2 Q I ⟨ρ', T, h, q⟩ => (h s H C cl fp).run pins s2 σ H2 Q I q⟩
theorem teAny_ok (s : Shared) (H : Hp) (C : Addr) (cl : List (Str × Addr)) (fp : List Addr) : PE (X.blk s H scope (compEnvC scope cl C X.env) fp) elt (teAny X R scope elt) := ⟨fun pins s2 σ H2 Q I ⟨ρ', T, h, q⟩ => (h s H C cl fp).run pins s2 σ H2 Q I q⟩
def LcBody (X : Cx) (R : Res) (ρ : List Cell) (scope : Scope) (own : List (Str × Nat)) (ifs : List Expr) (elt : Expr) (bd : List Cell → D → Option (List Cell)) (f : D → M (Option D)) : Prop :=
  ∀ (d : D) (q : Option D → Nat → Prop) (m : Nat), f d q m → ∃ (ρ' : List Cell) (Tt : M Bool) (Te : M D), bd (wipeC ρ (own.map (·.2))) d = some ρ' ∧ OkT X R scope ρ' ifs Tt ∧ OkE X R scope ρ' elt Te ∧ turnM Tt Te q m
theorem lc_read {Ti : M (List D)} {sl : List Nat} {bd : List Cell → D → Option (List Cell)} {f : D → M (Option D)} (hsl : ∀ j ∈ sl, j ∈ own.map (·.2)) (body : LcBody X R ρ scope own ifs elt bd f) (σ : L2.St) (H : Hp) (Q : VK)
    (h : tL R ρ (lcM Ti f) σ H Q) : tLc (tI R ρ Ti) (tG R sl bd) (ttAny X R scope ifs) (teAny X R scope elt) (own.map (·.2)) σ H Q := by
  obtain ⟨G, m, q, S, t, k⟩ := h
  refine ⟨G, m, _, S, t, fun J ds G1 H1 m1 S1 g1 W q1 Dl hD => ?_⟩
  obtain ⟨hz, q1⟩ := q1
  have WW : Walk J ds.length (fun H' => Same G1 H') (fun i H' x H'' => ∃ d, ds[i]? = some d ∧ ((H'' = H' ∧ Rp G1 x d) ∨ ∃ p vs es, x = .ref p ∧ H' p = none ∧ H'' = upd H' p (.tup vs) ∧ d = .tuple es ∧ RpL G1 vs es)) :=
    ⟨fun i H' hi s => W.go i H' s hi, fun H' s => W.stop H' s, fun i H' x H'' hi s y => W.yld i H' x H'' s hi y⟩
  have hnv : ¬ R.vol Dl := fun v => S1.vh Dl v hD
  refine lc_it (g := tG R sl bd) (tt := ttAny X R scope ifs) (te := teAny X R scope elt) (vs := own.map (·.2)) (σ := σ) (H1 := H1) (D := Dl) (Qd := Q (.ref Dl)) WW
    (fun i H' => ∃ (Gi : Hp) (mi : Nat) (as : List D) (vs : List V), Grow R.vol G1 H1 Gi H' ∧ Sit R σ ρ Gi H' mi ∧ Gi Dl = none ∧ H' Dl = some (.lst vs) ∧ RpL Gi vs as ∧ as.length ≤ i ∧ cM f (ds.drop i) (fun r m => q (as ++ r) m) mi)
    ?_ (fun i H' _ h => by obtain ⟨Gi, mi, as, vs, g, S', _⟩ := h; exact g.gg.trans S'.gh) ?_ ?_
  · obtain ⟨g, s⟩ := grow_own S1.gh hD (.lst [])
    obtain ⟨S2, g2⟩ := S1.growS g s
    exact ⟨G1, m1, [], [], g2, S2, S1.gh.free hD, upd_same, .nil, Nat.le_refl _, q1⟩
  · rintro i x Hi Hi' hlt ⟨Gi, mi, as, vs, g, S', gD, hDi, r, hl, hq⟩ ⟨d, hd, hy⟩
    have hdrop : ds.drop i = d :: ds.drop (i + 1) := by
      obtain ⟨h1, h2⟩ := List.getElem?_eq_some_iff.mp hd
      rw [List.drop_eq_getElem_cons h1, h2]
    rw [hdrop] at hq
    obtain ⟨ρ', Tt, Te, hbd, okt, oke, turn⟩ := body d _ mi hq
    -- the item, as a datum of a heap that is known
    have item : ∃ Gj, Grow R.vol G1 H1 Gj Hi' ∧ Sit R σ ρ Gj Hi' mi ∧ Gj Dl = none ∧ Hi' Dl = some (.lst vs) ∧ RpL Gj vs as ∧ Rp Gj x d := by
      rcases hy with ⟨rfl, rx⟩ | ⟨p, ws, es, rfl, hp, rfl, rfl, rx⟩
      · exact ⟨Gi, g, S', gD, hDi, r, rx.mono g.gg⟩
      · obtain ⟨g2, s2⟩ := grow_new S'.gh hp (.tup ws)
        obtain ⟨S2, g2'⟩ := S'.growS g2 s2
        have ne : Dl ≠ p := fun z => by subst z; rw [hDi] at hp; cases hp
        exact ⟨_, g.trans S'.vh g2', S2, by rw [upd_ne ne]; exact gD, by rw [upd_ne ne]; exact hDi, r.mono g2.gg, .tup upd_same (rx.mono (g.gg.trans g2.gg))⟩
    obtain ⟨Gj, gj, Sj, gDj, hDj, rj, rx⟩ := item
    have hwl : (wipe σ (own.map (·.2))).length = σ.length := wipe_length _ _
    refine ⟨Gj, mi, d, wipeC ρ (own.map (·.2)), ρ', Sj.wipe _, rx, hbd, fun σ2 S2 l2 f2 => ⟨wipe_eq (l2.trans hwl) fun j hj => f2 j fun z => hj (hsl j z), ρ', Tt, okt, Gj, mi, _, S2, turn, fun t G3 H3 m3 S3 g3 q3 => ?_⟩⟩
    have gD3 : G3 Dl = none := g3.new Dl gDj (by rw [hDj]; exact fun z => nomatch z)
    have hD3 : H3 Dl = some (.lst vs) := g3.hh Dl _ hnv hDj
    cases t with
    | false =>
      show ∃ (Gi : Hp) (mi : Nat) (as : List D) (vs : List V), _
      have g' := gj.trans Sj.vh g3
      exact ⟨G3, m3, as, vs, g', S1.grow g' S3.gh S3.vh S3.jd, gD3, hD3, rj.mono g3.gg, Nat.le_succ_of_le hl, q3⟩
    | true =>
      show ∃ ρ' T, OkE X R scope ρ' elt T ∧ tJ R ρ' T σ2 H3 _
      refine ⟨ρ', Te, oke, G3, m3, _, S3, q3, fun v y G4 H4 m4 S4 g4 r4 q4 => ?_⟩
      have gD4 : G4 Dl = none := g4.new Dl gD3 (by rw [hD3]; exact fun z => nomatch z)
      have hD4 : H4 Dl = some (.lst vs) := g4.hh Dl _ hnv hD3
      have g' := (gj.trans Sj.vh g3).trans S3.vh g4
      have g5 : Grow R.vol G1 H1 G4 (upd H4 Dl (.lst (vs ++ [v]))) := g'.back hD
      have rl := rj.length
      refine ⟨vs, hD4, by omega, G4, m4, as ++ [y], vs ++ [v], g5, S1.grow g5 (fun a o h => by rw [upd_ne (ne_of_none h gD4)]; exact S4.gh a o h) (fun a va => ?_) (R.dm (fun a va => upd_ne fun z => hnv (z ▸ va)) S4.jd), gD4, upd_same, (rj.mono (g3.gg.trans g4.gg)).append (.cons r4 .nil), by simp; exact hl, ?_⟩
      · by_cases z : a = Dl
        · exact absurd (z ▸ va) hnv
        · rw [upd_ne z]; exact S4.vh a va
      · have e : (fun r m => q (as ++ [y] ++ r) m) = fun r m => q (as ++ (y :: r)) m := by
          funext r m
          rw [List.append_assoc]; rfl
        rw [e]
        exact q4
  · rintro H' ⟨Gi, mi, as, vs, g, S', gD, hDi, r, hl, hq⟩
    rw [List.drop_length] at hq
    have hq : q (as ++ []) mi := hq
    rw [List.append_nil] at hq
    exact k Dl vs as Gi H' mi S' (g1.trans S1.vh g) (free_of g1 S1.vh hD) gD hDi r hq
theorem jl_lc {Ti : M (List D)} {sl : List Nat} {bd : List Cell → D → Option (List Cell)} {f : D → M (Option D)} {k : Nat} (B : Bx X k) (hi : JI X R ρ tg iter Ti) (ok : BlkOk X.N X.env.scope scope own) (hsl : ∀ j ∈ sl, j ∈ own.map (·.2))
    (hg : ∀ (s : Shared) (H : Hp) (C : Addr) (cl : List (Str × Addr)) (fp : List Addr), JG (X.blk s H scope (compEnvC scope cl C X.env) fp) R tg sl bd) (body : LcBody X R ρ scope own ifs elt bd f)
    (hs : ∀ x, foldedSetIterable iter X.env x = pure x := by intro _; rfl) : JL X R ρ (.ListComp elt [⟨tg, iter, ifs, 0⟩] scope pos) (lcM Ti f) :=
  PE.imp (pe_lc B.hc B.nd hi ok hg ttAny_ok teAny_ok hs) (lc_read hsl body)
/-- name = [..], the name a plain local -/
theorem js_lc {Ti : M (List D)} {sl : List Nat} {bd : List Cell → D → Option (List Cell)} {f : D → M (Option D)} {k i : Nat} {y : Str} {py spos : Pos} (B : Bx X k) (hy : X.N[i]? = some y) (hyl : X.env.scope.names.lookup y = some .local) (hsw : swapsWith (.ListComp elt [⟨tg, iter, ifs, 0⟩] scope pos) (some (.Name y py)) spos.line X.env = pure true)
    (hi : JI X R ρ tg iter Ti) (ok : BlkOk X.N X.env.scope scope own) (hsl : ∀ j ∈ sl, j ∈ own.map (·.2))
    (hg : ∀ (s : Shared) (H : Hp) (C : Addr) (cl : List (Str × Addr)) (fp : List Addr), JG (X.blk s H scope (compEnvC scope cl C X.env) fp) R tg sl bd) (body : LcBody X R ρ scope own ifs elt bd f)
    (hs : ∀ x, foldedSetIterable iter X.env x = pure x := by intro _; rfl) : PS X (.Assign [.Name y py] (.ListComp elt [⟨tg, iter, ifs, 0⟩] scope pos) spos) (tAsg (tL R ρ (lcM Ti f)) (gName i)) :=
  ⟨fun pins s σ H Dn I h => (ps_setLc B.hc B.nd hy hyl hsw hi ok hg ttAny_ok teAny_ok hs).run pins s σ H Dn I (lc_read hsl body σ H _ h)⟩
end
end Dl

set_option Elab.async false
set_option linter.all false
set_option autoImplicit false
set_option maxRecDepth 100000
set_option maxHeartbeats 1000000
namespace Dl
open PySem L2

/-! ### comprehensions, pure -/
def cO (f : D → Option (Option D)) : List D → Option (List D)
  | [] => some []
  | d :: ds => (f d).bind fun o => (cO f ds).bind fun r => some (match o with | some x => x :: r | none => r)
def lcO (oi : Option (List D)) (f : D → Option (Option D)) : Option (List D) := oi.bind fun ds => if ds.length < sizeLine then cO f ds else none
def turnO (ot : Option Bool) (oe : Option D) : Option (Option D) := ot.bind fun t => if t = true then oe.map some else some none
def un2 {β : Type} : D → (D → D → Option β) → Option β
  | .tuple [a, b], f => f a b
  | _, _ => none
def un3 {β : Type} : D → (D → D → D → Option β) → Option β
  | .tuple [a, b, c], f => f a b c
  | _, _ => none
theorem cO_cM {f : D → Option (Option D)} : ∀ {ds : List D} {q : List D → Nat → Prop} {m : Nat}, lift (cO f ds) q m → cM (fun d => lift (f d)) ds q m
  | [], q, m, h => by
    show q [] m
    exact lift_some' h
  | d :: ds, q, m, h => by
    obtain ⟨o, h1, h2⟩ := lift1 h
    obtain ⟨r, h3, h4⟩ := lift1 h2
    exact ⟨o, h1, cO_cM ⟨r, h3, lift_some' h4⟩⟩
theorem lcO_lcM {oi : Option (List D)} {f : D → Option (Option D)} {q : List D → Nat → Prop} {m : Nat} (h : lift (lcO oi f) q m) : lcM (lift oi) (fun d => lift (f d)) q m := by
  obtain ⟨ds, h1, h2⟩ := lift1 h
  by_cases hz : ds.length < sizeLine
  · rw [if_pos hz] at h2
    exact ⟨ds, h1, hz, cO_cM h2⟩
  · rw [if_neg hz] at h2
    obtain ⟨_, e, _⟩ := h2
    cases e
theorem turnO_M {ot : Option Bool} {oe : Option D} {q : Option D → Nat → Prop} {m : Nat} (h : lift (turnO ot oe) q m) : turnM (lift ot) (lift oe) q m := by
  obtain ⟨t, h1, h2⟩ := lift1 h
  refine ⟨t, h1, ?_⟩
  cases t with
  | false => exact lift_some' h2
  | true =>
    obtain ⟨z, h3, h4⟩ := h2
    obtain ⟨x, h5, h6⟩ := Option.map_eq_some_iff.mp h3
    subst h6
    exact ⟨x, h5, h4⟩
section
variable {X : Cx} {R : Res} {ρ : List Cell} {tg iter elt : Expr} {ifs : List Expr} {scope : Scope} {own : List (Str × Nat)} {pos : Pos} {k : Nat}
abbrev OkTE (X : Cx) (R : Res) (scope : Scope) (ρ : List Cell) (ifs : List Expr) (o : Option Bool) : Prop := OkT X R scope ρ ifs (lift o)
abbrev OkEE (X : Cx) (R : Res) (scope : Scope) (ρ : List Cell) (e : Expr) (o : Option D) : Prop := OkE X R scope ρ e (lift o)
theorem okTE_nil : OkTE X R scope ρ [] (some true) := fun s H C cl fp => ⟨fun pins s2 σ H2 Q I ⟨G, m, q, S, t, c⟩ => (okT_nil s H C cl fp).run pins s2 σ H2 Q I ⟨G, m, q, S, lift_some' t, c⟩⟩
theorem jle_lc1 {oi : Option (List D)} {i : Nat} {ot : D → Option Bool} {oe : D → Option D} (B : Bx X k) (hi : JIE X R ρ tg iter oi) (ok : BlkOk X.N X.env.scope scope own)
    (hg : ∀ (s : Shared) (H : Hp) (C : Addr) (cl : List (Str × Addr)) (fp : List Addr), JG (X.blk s H scope (compEnvC scope cl C X.env) fp) R tg [i] (bd1 i))
    (ht : ∀ d, OkTE X R scope ((wipeC ρ (own.map (·.2))).set i (.dat d)) ifs (ot d)) (he : ∀ d, OkEE X R scope ((wipeC ρ (own.map (·.2))).set i (.dat d)) elt (oe d))
    (hsl : ∀ j ∈ [i], j ∈ own.map (·.2) := by decide) (hs : ∀ x, foldedSetIterable iter X.env x = pure x := by intro _; rfl) : JLE X R ρ (.ListComp elt [⟨tg, iter, ifs, 0⟩] scope pos) (lcO oi fun d => turnO (ot d) (oe d)) :=
  (jl_lc B hi ok hsl hg (f := fun d => lift (turnO (ot d) (oe d))) (fun d q m h => ⟨_, _, _, rfl, ht d, he d, turnO_M h⟩) hs).imp fun _ _ => lcO_lcM
theorem jle_lc2 {oi : Option (List D)} {i1 i2 : Nat} {ot : D → D → Option Bool} {oe : D → D → Option D} (B : Bx X k) (hi : JIE X R ρ tg iter oi) (ok : BlkOk X.N X.env.scope scope own)
    (hg : ∀ (s : Shared) (H : Hp) (C : Addr) (cl : List (Str × Addr)) (fp : List Addr), JG (X.blk s H scope (compEnvC scope cl C X.env) fp) R tg [i1, i2] (bdT [i1, i2]))
    (ht : ∀ a b, OkTE X R scope (((wipeC ρ (own.map (·.2))).set i1 (.dat a)).set i2 (.dat b)) ifs (ot a b)) (he : ∀ a b, OkEE X R scope (((wipeC ρ (own.map (·.2))).set i1 (.dat a)).set i2 (.dat b)) elt (oe a b))
    (hsl : ∀ l ∈ [i1, i2], l ∈ own.map (·.2) := by decide) (hs : ∀ x, foldedSetIterable iter X.env x = pure x := by intro _; rfl) : JLE X R ρ (.ListComp elt [⟨tg, iter, ifs, 0⟩] scope pos) (lcO oi fun d => un2 d fun a b => turnO (ot a b) (oe a b)) :=
  (jl_lc B hi ok hsl hg (f := fun d => lift (un2 d fun a b => turnO (ot a b) (oe a b))) (fun d q m h => by
    obtain ⟨z, h1, h2⟩ := h
    match d, h1 with
    | .tuple [a, b], h1 => exact ⟨_, _, _, rfl, ht a b, he a b, turnO_M ⟨z, h1, h2⟩⟩) hs).imp fun _ _ => lcO_lcM
end

/-! ### one's own lists, read -/
def brw : List Cell → List Cell
  | [] => []
  | .own ds :: r => .dat (.list ds) :: brw r
  | c :: r => c :: brw r
theorem brw_len : ∀ ρ : List Cell, (brw ρ).length = ρ.length
  | [] => rfl
  | .own _ :: r => by simp [brw, brw_len r]
  | .no :: r => by simp [brw, brw_len r]
  | .dat _ :: r => by simp [brw, brw_len r]
  | .raw _ :: r => by simp [brw, brw_len r]
theorem brw_at : ∀ (ρ : List Cell) (i : Nat) (c : Cell), (brw ρ)[i]? = some c → (∃ ds, ρ[i]? = some (.own ds) ∧ c = .dat (.list ds)) ∨ ((∀ ds, c ≠ .own ds) ∧ ρ[i]? = some c)
  | [], i, c, h => by simp [brw] at h
  | .own ds :: r, 0, c, h => by simp [brw] at h; exact .inl ⟨ds, rfl, h.symm⟩
  | .own _ :: r, i + 1, c, h => brw_at r i c (by simpa [brw] using h)
  | .no :: r, 0, c, h => by simp [brw] at h; subst h; exact .inr ⟨(fun _ z => nomatch z), rfl⟩
  | .no :: r, i + 1, c, h => brw_at r i c (by simpa [brw] using h)
  | .dat _ :: r, 0, c, h => by simp [brw] at h; subst h; exact .inr ⟨(fun _ z => nomatch z), rfl⟩
  | .dat _ :: r, i + 1, c, h => brw_at r i c (by simpa [brw] using h)
  | .raw _ :: r, 0, c, h => by simp [brw] at h; subst h; exact .inr ⟨(fun _ z => nomatch z), rfl⟩
  | .raw _ :: r, i + 1, c, h => brw_at r i c (by simpa [brw] using h)
/-- the addresses of one's own -/
def Owned (σ : L2.St) (ρ : List Cell) (a : Addr) : Prop := ∃ (i : Nat) (ds : List D), ρ[i]? = some (.own ds) ∧ σ[i]? = some (some (.ref a))
section
variable {R : Res} {σ : L2.St} {ρ : List Cell} {G H : Hp} {m : Nat}
open Classical in
noncomputable def shr (σ : L2.St) (ρ : List Cell) (G H : Hp) : Hp := fun a => if Owned σ ρ a then H a else G a
open Classical in
noncomputable def uns (σ : L2.St) (ρ : List Cell) (G : Hp) : Hp := fun a => if Owned σ ρ a then none else G a
theorem Sit.owned (S : Sit R σ ρ G H m) {a : Addr} (o : Owned σ ρ a) : ∃ vs ds, G a = none ∧ ¬ R.vol a ∧ H a = some (.lst vs) ∧ RpL G vs ds ∧ R.ent a = none := by
  obtain ⟨i, ds, h1, h2⟩ := o
  obtain ⟨l, vs, e, g, n, en, h, r⟩ := S.ownT h1
  rw [h2] at e
  cases e
  exact ⟨vs, ds, g, n, h, r, en⟩
theorem Sit.shr_gg (S : Sit R σ ρ G H m) : Same G (shr σ ρ G H) := fun a o h => by
  unfold shr
  by_cases w : Owned σ ρ a
  · obtain ⟨_, _, g, _⟩ := S.owned w
    rw [g] at h; cases h
  · rw [if_neg w]; exact h
theorem Sit.shr_gh (S : Sit R σ ρ G H m) : Same (shr σ ρ G H) H := fun a o h => by
  unfold shr at h
  by_cases w : Owned σ ρ a
  · rw [if_pos w] at h; exact h
  · rw [if_neg w] at h; exact S.gh a o h
theorem Sit.lend (S : Sit R σ ρ G H m) : Sit R σ (brw ρ) (shr σ ρ G H) H m := by
  refine ⟨⟨S.shr_gh, fun a v => ?_, S.vh, R.sm S.shr_gg S.js, S.jd, S.en⟩, by rw [brw_len]; exact S.len, fun i c e => ?_, fun i j ds es l e1 _ _ _ => ?_⟩
  · unfold shr
    by_cases w : Owned σ ρ a
    · obtain ⟨_, _, _, n, _⟩ := S.owned w
      exact absurd v n
    · rw [if_neg w]; exact S.vg a v
  · rcases brw_at ρ i c e with ⟨ds, h, rfl⟩ | ⟨hn, h⟩
    · obtain ⟨l, vs, e, g, n, en, hl, r⟩ := S.ownT h
      refine ⟨.ref l, e, .lst (vs := vs) ?_ (r.mono S.shr_gg)⟩
      unfold shr
      rw [if_pos ⟨i, ds, h, e⟩]
      exact hl
    · have q := S.cell i c h
      cases c with
      | no => trivial
      | raw v => exact q
      | dat d => obtain ⟨v, e, r⟩ := q; exact ⟨v, e, r.mono S.shr_gg⟩
      | own ds => exact absurd rfl (hn ds)
  · rcases brw_at ρ i _ e1 with ⟨_, _, z⟩ | ⟨hn, _⟩
    · cases z
    · exact absurd rfl (hn ds)
theorem Sit.unbor (S : Sit R σ ρ G H m) {G2 H2 : Hp} {m2 : Nat} (S2 : Sit R σ (brw ρ) G2 H2 m2) (g : Grow R.vol (shr σ ρ G H) H G2 H2) :
    Sit R σ ρ (uns σ ρ G2) H2 m2 ∧ Grow R.vol G H (uns σ ρ G2) H2 ∧ ∀ p vs, G2 p = some (.tup vs) → uns σ ρ G2 p = some (.tup vs) := by
  have gg : Same G (uns σ ρ G2) := fun a o h => by
    unfold uns
    by_cases w : Owned σ ρ a
    · obtain ⟨_, _, g, _⟩ := S.owned w
      rw [g] at h; cases h
    · rw [if_neg w]; exact g.gg a o (S.shr_gg a o h)
  have g' : Grow R.vol G H (uns σ ρ G2) H2 := ⟨gg, g.hh, fun a ga ha => by
    unfold uns
    by_cases w : Owned σ ρ a
    · rw [if_pos w]
    · rw [if_neg w]
      refine g.new a ?_ ha
      unfold shr
      rw [if_neg w]; exact ga⟩
  refine ⟨S.grow g' (fun a o h => ?_) S2.vh S2.jd, g', fun p vs h => ?_⟩
  · unfold uns at h
    by_cases w : Owned σ ρ a
    · rw [if_pos w] at h; cases h
    · rw [if_neg w] at h; exact S2.gh a o h
  · unfold uns
    by_cases w : Owned σ ρ p
    · obtain ⟨ws, _, _, n, hl, _⟩ := S.owned w
      have e1 := S2.gh p _ h
      have e2 := g.hh p _ n hl
      rw [e1] at e2; cases e2
    · rw [if_neg w]; exact h
end
section
variable {X : Cx} {R : Res} {ρ : List Cell} {e : Expr}
theorem JM.lend {T : M D} (h : JM X R (brw ρ) e T) : JM X R ρ e (fun q => T fun d m => imm d = true ∧ q d m) :=
  PE.imp h fun σ H Q ⟨G, m, q, S, t, k⟩ => ⟨_, m, _, S.lend, t, fun v d G2 H2 m2 S2 g2 r2 q2 => by
    obtain ⟨S3, g3, tt⟩ := S.unbor S2 g2
    exact k v d _ H2 m2 S3 g3 (r2.keep tt q2.1) q2.2⟩
theorem JL.lend {T : M (List D)} (h : JL X R (brw ρ) e T) : JL X R ρ e (fun q => T fun ds m => immL ds = true ∧ q ds m) :=
  PE.imp h fun σ H Q ⟨G, m, q, S, t, k⟩ => ⟨_, m, _, S.lend, t, fun p vs ds G2 H2 m2 S2 g2 hp gp hp2 r2 q2 => by
    obtain ⟨S3, g3, tt⟩ := S.unbor S2 g2
    refine k p vs ds _ H2 m2 S3 g3 hp ?_ hp2 (r2.keep tt q2.1) q2.2
    unfold uns
    by_cases w : Owned σ ρ p
    · rw [if_pos w]
    · rw [if_neg w]; exact gp⟩
theorem JT.lend {T : M Bool} (h : JT X R (brw ρ) e T) : JT X R ρ e T :=
  PT.imp h fun σ H Q ⟨G, m, q, S, t, k⟩ => ⟨_, m, _, S.lend, t, fun b G2 H2 m2 S2 g2 q2 => by
    obtain ⟨S3, g3, _⟩ := S.unbor S2 g2
    exact k b _ H2 m2 S3 g3 q2⟩
def immO (o : Option D) : Option D := o.bind fun d => if imm d = true then some d else none
def immLO (o : Option (List D)) : Option (List D) := o.bind fun d => if immL d = true then some d else none
theorem JE.lend {o : Option D} (h : JE X R (brw ρ) e o) : JE X R ρ e (immO o) := (JM.lend h).imp fun q m t => by
  obtain ⟨d, h1, h2⟩ := lift1 t
  by_cases z : imm d = true
  · rw [if_pos z] at h2
    exact ⟨d, h1, z, lift_some' h2⟩
  · rw [if_neg z] at h2
    obtain ⟨_, e, _⟩ := h2; cases e
theorem JLE.lend {o : Option (List D)} (h : JLE X R (brw ρ) e o) : JLE X R ρ e (immLO o) := (JL.lend h).imp fun q m t => by
  obtain ⟨d, h1, h2⟩ := lift1 t
  by_cases z : immL d = true
  · rw [if_pos z] at h2
    exact ⟨d, h1, z, lift_some' h2⟩
  · rw [if_neg z] at h2
    obtain ⟨_, e, _⟩ := h2; cases e
end
end Dl

set_option Elab.async false
set_option linter.all false
set_option autoImplicit false
set_option maxRecDepth 100000
set_option maxHeartbeats 1000000
namespace Dl
open PySem L2

/-! ### what a def promises -/
structure FnG (P : Program) (w : World) (K : PySem.W.Frag) (mg : Str → Option Value) (base : Heap) (CX : CXT) (k : Nat) (f : Addr) (fd : FuncData) (ps : List Str) (sp : Sp) : Prop where
  len : ∀ vs H Q E, sp vs H Q E → vs.length = ps.length
  run : ∀ (A : Around) (outer : List Env) (s : Shared) (H : Hp) (args : Args) (us : List Value) (vs : List V) (Q : VK) (E : XK), A.guards = some [] → Room k A → Env0 P w K mg base A outer s H →
    BindsTo s fd args (ps.zip us) → Vals vs us → sp vs H Q E → codeAny (model P w) A (.call (.ref f) args) (CR CX outer P w H s Q E) s
section
variable {P : Program} {w : World} {K : PySem.W.Frag} {mg : Str → Option Value} {base : Heap} {CX : CXT}
theorem FnG.mono {j k : Nat} {f : Addr} {fd : FuncData} {ps : List Str} {sp : Sp} (F : FnG P w K mg base CX j f fd ps sp) (h : j ≤ k) : FnG P w K mg base CX k f fd ps sp :=
  ⟨F.len, fun A o s H args us vs Q E hg hr => F.run A o s H args us vs Q E hg (hr.mono h)⟩
/-- by its body -/
theorem fn_g {x qual : Str} {st : Stmt} {f : Addr} {fd : FuncData} {N ps : List Str} {k : Nat} {sp : Sp} (F : Fun K x qual st f fd) (S : FnScope N ps (defScope st)) (len : ∀ vs H Q E, sp vs H Q E → vs.length = ps.length)
    (body : ∀ (cdv : Value) (A : Around) (outer : List Env) (s : Shared) (H : Hp) (vs : List V) (Q : VK) (E : XK), A.guards = some [] → Room k (A.deeper (PyProof.Rows.envOfC qual (defScope st) s.heap.objs.size f cdv)) → sp vs H Q E →
      ∃ t, PSs (cxOf CX P w K mg base N qual (defScope st) f cdv A outer s H E) (defBody st) t ∧ t { nx := fun _ H' => Q .non H', rt := Q } (start N vs) H) : FnG P w K mg base CX (k + 1) f fd ps sp := by
  obtain ⟨oc, od, kV, doc, pm, an, cdv, ct, osl, rfl, lk, hcd⟩ := F.ex
  refine ⟨len, ?_⟩
  intro A outer s H args us vs Q E hg hr env hb rv h
  have hlen := len _ _ _ _ h
  have inK := env.mod.kin.keeps fun b o e => (env.bs b o e).1
  have nol := env.mod.nolimit.keeps fun b o e => (env.bs b o e).1
  refine codeAny_call_function hr.depth (inK _ _ lk) rfl S.co S.gen rfl (PySem.W.codeRec_of inK hcd) (hb _ _ _ _ ?_)
  refine wpAny_newFunctionEnv_cells S.kind (fun y hy => ?_) fun en he s1 ic => ?_
  · obtain ⟨n, v⟩ := y
    exact (S.par n (List.of_mem_zip hy).1).imp id fun q => ⟨q, PySem.W.cellsFrom_some _ _ _ (.inl q)⟩
  · subst he
    obtain ⟨t, ht, hq⟩ := body cdv A outer s H vs Q E hg (hr.deeper _) h
    refine ⟨nol.keeps ic.toInCall.keep, codeAny_func (wpAny_mono (ht.run [] s1 (start N vs) H _ (inv_start S hr.hd env hlen rv ic) hq) (fun fl s' hs => ?_) fun e s' hs => hs)⟩
    match fl, hs with
    | .ret u, ⟨v, σ', H', J, rv', q⟩ => exact ⟨v, H', J.os, J.bare, J.base, J.hok, rv', q⟩
    | .next, ⟨σ', H', J, q⟩ => exact ⟨V.non, H', J.os, J.bare, J.base, J.hok, rfl, q⟩
    | .brk, ⟨_, _, _, q⟩ => exact q.elim
    | .cont, ⟨_, _, _, q⟩ => exact q.elim
end
/-- a def of the module that is known by its name -/
def Kn (P : Program) (w : World) (K : PySem.W.Frag) (mg : Str → Option Value) (base : Heap) (x : Str) (k : Nat) (sp : Sp) : Prop :=
  ∃ f fd ps, FnG P w K mg base CX0 k f fd ps sp ∧ mg x = some (.ref f) ∧ PySem.W.keepIn K (.ref f) = true ∧ Binds K fd ps []
section
variable {X : Cx} {k : Nat} {x : Str} {p pos : Pos} {e : Expr} {es : List Expr} {sp : Sp} {t : TA}
theorem pe_kn (h : Kn X.prog X.w X.K X.mg X.base x k sp) (B : Bx X k) (ha : PA X (e :: es) t) (hg : Gl X x := by rfl) (hdb : (x == ("__debug__" : Str)) = false := by decide) (he : starEach (e :: es) X.env = (false, eval e X.env) :: starEach es X.env := by rfl)
    (hpl : (backTo pos (starEach es X.env)).any (·.1) = false := by rfl) : PE X (.Call (.Name x p) (e :: es) [] pos) (fun σ H Q => t σ H fun vs H1 => sp vs H1 Q E0) := by
  obtain ⟨f, fd, ps, F, hm, hk, hb⟩ := h
  refine ⟨fun pins s σ H Q I hq => wpAny_Call_Name_kw (ld_glob I hg hm ?_ hdb)⟩
  refine PySem.W.callWith_K (h₀ := X.base) I.ok.mod.kin hk (thn (ha.run pos pins s σ H _ I hq) fun us s1 hs => ?_) he hpl
  obtain ⟨vs, H1, I1, rv, q⟩ := hs
  have bt := hb s1 us I1.kIn (by rw [List.append_nil, ← rv.length]; exact F.len _ _ _ _ q)
  rw [List.append_nil] at bt
  refine ⟨I1.kIn, wpAny_call (codeAny_mono (F.run X.A X.stack s1 H1 ⟨us, []⟩ us vs Q E0 B.hg B.hr I1.env0 bt rv q) fun r s' hr => ?_)⟩
  match r, hr with
  | .ok (.ret u), hr => exact I1.after hr
  | .error e, hr => exact hr.elim
end

/-- how an answer is handed back: a datum, or a new list of nobody else's. en: the heap at the entry -/
structure RK (α : Type) where
  rel : Hp → Hp → Hp → V → α → Prop
def RK.dat : RK D := ⟨fun _ G' _ v d => Rp G' v d⟩
def RK.lst : RK (List D) := ⟨fun en G' H' v ds => ∃ p vs, v = .ref p ∧ en p = none ∧ G' p = none ∧ H' p = some (.lst vs) ∧ RpL G' vs ds⟩
/-- a pure def of n arguments: the answer is F's -/
def spR {α : Type} (rk : RK α) (n : Nat) (F : List D → Option α) : Sp := fun vs H Q _ => ∃ G ds a, Same G H ∧ RpL G vs ds ∧ ds.length = n ∧ F ds = some a ∧ ∀ v G' H', Grow (fun _ => False) G H G' H' → Same G' H' → rk.rel H G' H' v a → Q v H'
section
variable {X : Cx} {R : Res} {ρ : List Cell} {k n : Nat} {x : Str} {p pos : Pos} {e : Expr} {es : List Expr}
theorem jm_kn {F : List D → Option D} {Ts : M (List D)} (h : Kn X.prog X.w X.K X.mg X.base x k (spR .dat n F)) (B : Bx X k) (ha : JA X R ρ (e :: es) n Ts) (hg : Gl X x := by rfl) (hdb : (x == ("__debug__" : Str)) = false := by decide)
    (he : starEach (e :: es) X.env = (false, eval e X.env) :: starEach es X.env := by rfl) (hpl : (backTo pos (starEach es X.env)).any (·.1) = false := by rfl) : JM X R ρ (.Call (.Name x p) (e :: es) [] pos) (fun q => Ts fun ds => lift (F ds) q) := by
  refine PE.imp (pe_kn h B ha hg hdb he hpl) fun σ H Q ⟨G, m, q, S, t, k⟩ => ⟨G, m, _, S, t, fun vs ds G1 H1 m1 S1 g1 r1 l1 q1 => ?_⟩
  obtain ⟨z, hz, q1⟩ := q1
  refine ⟨G1, ds, z, S1.gh, r1, l1, hz, fun v G2 H2 g2 s2 r2 => ?_⟩
  obtain ⟨S2, g2'⟩ := S1.growS g2 s2
  exact k v z G2 H2 m1 S2 (g1.trans S1.vh g2') r2 q1
theorem jl_kn {F : List D → Option (List D)} {Ts : M (List D)} (h : Kn X.prog X.w X.K X.mg X.base x k (spR .lst n F)) (B : Bx X k) (ha : JA X R ρ (e :: es) n Ts) (hg : Gl X x := by rfl) (hdb : (x == ("__debug__" : Str)) = false := by decide)
    (he : starEach (e :: es) X.env = (false, eval e X.env) :: starEach es X.env := by rfl) (hpl : (backTo pos (starEach es X.env)).any (·.1) = false := by rfl) : JL X R ρ (.Call (.Name x p) (e :: es) [] pos) (fun q => Ts fun ds => lift (F ds) q) := by
  refine PE.imp (pe_kn h B ha hg hdb he hpl) fun σ H Q ⟨G, m, q, S, t, k⟩ => ⟨G, m, _, S, t, fun vs ds G1 H1 m1 S1 g1 r1 l1 q1 => ?_⟩
  obtain ⟨z, hz, q1⟩ := q1
  refine ⟨G1, ds, z, S1.gh, r1, l1, hz, fun v G2 H2 g2 s2 r2 => ?_⟩
  obtain ⟨S2, g2'⟩ := S1.growS g2 s2
  obtain ⟨l, ws, rfl, hl, gl, hl2, r⟩ := r2
  exact k l ws z G2 H2 m1 S2 (g1.trans S1.vh g2') (free_of g1 S1.vh hl) gl hl2 r q1
theorem je_kn {F : List D → Option D} {os : Option (List D)} (h : Kn X.prog X.w X.K X.mg X.base x k (spR .dat n F)) (B : Bx X k) (ha : JAE X R ρ (e :: es) n os) (hg : Gl X x := by rfl) (hdb : (x == ("__debug__" : Str)) = false := by decide)
    (he : starEach (e :: es) X.env = (false, eval e X.env) :: starEach es X.env := by rfl) (hpl : (backTo pos (starEach es X.env)).any (·.1) = false := by rfl) : JE X R ρ (.Call (.Name x p) (e :: es) [] pos) (os.bind F) := (jm_kn h B ha hg hdb he hpl).imp fun _ _ => liftF
theorem jle_kn {F : List D → Option (List D)} {os : Option (List D)} (h : Kn X.prog X.w X.K X.mg X.base x k (spR .lst n F)) (B : Bx X k) (ha : JAE X R ρ (e :: es) n os) (hg : Gl X x := by rfl) (hdb : (x == ("__debug__" : Str)) = false := by decide)
    (he : starEach (e :: es) X.env = (false, eval e X.env) :: starEach es X.env := by rfl) (hpl : (backTo pos (starEach es X.env)).any (·.1) = false := by rfl) : JLE X R ρ (.Call (.Name x p) (e :: es) [] pos) (os.bind F) := (jl_kn h B ha hg hdb he hpl).imp fun _ _ => liftF
variable {id T : String} {r : List V → Hp → VK → Prop}
theorem je_callB {F : List D → Option D} {os : Option (List D)} (hr : CallR X (.builtin id) r) (hF : CallD r F) (hm : X.mg x = none) (hv : bootBuiltins x = some (.builtin id)) (ha : JAE X R ρ (e :: es) n os) (hg : Gl X x := by rfl) (hn : x ≠ "__name__" := by decide) (hdb : (x == ("__debug__" : Str)) = false := by decide)
    (he : starEach (e :: es) X.env = (false, eval e X.env) :: starEach es X.env := by rfl) (hpl : (backTo pos (starEach es X.env)).any (·.1) = false := by rfl) : JE X R ρ (.Call (.Name x p) (e :: es) [] pos) (os.bind F) := (jm_callB hr hF hm hv ha hg hn hdb he hpl).imp fun _ _ => liftF
theorem je_callTy {F : List D → Option D} {os : Option (List D)} (hr : CallR X (.type T) r) (hF : CallD r F) (hm : X.mg x = none) (hv : bootBuiltins x = some (.type T)) (ha : JAE X R ρ (e :: es) n os) (hg : Gl X x := by rfl) (hn : x ≠ "__name__" := by decide) (hdb : (x == ("__debug__" : Str)) = false := by decide)
    (he : starEach (e :: es) X.env = (false, eval e X.env) :: starEach es X.env := by rfl) (hpl : (backTo pos (starEach es X.env)).any (·.1) = false := by rfl) : JE X R ρ (.Call (.Name x p) (e :: es) [] pos) (os.bind F) := (jm_callTy hr hF hm hv ha hg hn hdb he hpl).imp fun _ _ => liftF
theorem jle_callB {F : List D → Option (List D)} {os : Option (List D)} (hr : CallR X (.builtin id) r) (hF : CallDL r F) (hm : X.mg x = none) (hv : bootBuiltins x = some (.builtin id)) (ha : JAE X R ρ (e :: es) n os) (hg : Gl X x := by rfl) (hn : x ≠ "__name__" := by decide) (hdb : (x == ("__debug__" : Str)) = false := by decide)
    (he : starEach (e :: es) X.env = (false, eval e X.env) :: starEach es X.env := by rfl) (hpl : (backTo pos (starEach es X.env)).any (·.1) = false := by rfl) : JLE X R ρ (.Call (.Name x p) (e :: es) [] pos) (os.bind F) := (jl_callB hr hF hm hv ha hg hn hdb he hpl).imp fun _ _ => liftF
theorem jle_callTy {F : List D → Option (List D)} {os : Option (List D)} (hr : CallR X (.type T) r) (hF : CallDL r F) (hm : X.mg x = none) (hv : bootBuiltins x = some (.type T)) (ha : JAE X R ρ (e :: es) n os) (hg : Gl X x := by rfl) (hn : x ≠ "__name__" := by decide) (hdb : (x == ("__debug__" : Str)) = false := by decide)
    (he : starEach (e :: es) X.env = (false, eval e X.env) :: starEach es X.env := by rfl) (hpl : (backTo pos (starEach es X.env)).any (·.1) = false := by rfl) : JLE X R ρ (.Call (.Name x p) (e :: es) [] pos) (os.bind F) := (jl_callTy hr hF hm hv ha hg hn hdb he hpl).imp fun _ _ => liftF
end

/-! ### statements -/
/-- what each way out of a block may be: the cells then, and what is then to hold -/
structure Kt where
  nx : List Cell → (Nat → Prop) → Prop
  bk : List Cell → (Nat → Prop) → Prop
  ct : List Cell → (Nat → Prop) → Prop
def Lk (R : Res) (Gb Gs : Hp) (κ : List Cell → (Nat → Prop) → Prop) (P : L2.St → Hp → Prop) : Prop := ∀ ρ' b σ' G' H' m', κ ρ' b → b m' → Sit R σ' ρ' G' H' m' → Grow R.vol Gb R.ent G' H' → Same Gs G' → P σ' H'
def Rt {α : Type} (R : Res) (rk : RK α) (Gb : Hp) (q : α → Nat → Prop) (P : VK) : Prop := ∀ v a G' H' m', Sat R G' H' m' → Grow R.vol Gb R.ent G' H' → rk.rel R.ent G' H' v a → q a m' → P v H'
/-- the ways out of a block, from what is known -/
structure Ls {α : Type} (R : Res) (rk : RK α) (Gb Gs : Hp) (κ : Kt) (q : α → Nat → Prop) (Dn : Ends) : Prop where
  rt : Rt R rk Gb q Dn.rt
  nx : Lk R Gb Gs κ.nx Dn.nx
  bk : Lk R Gb Gs κ.bk Dn.bk
  ct : Lk R Gb Gs κ.ct Dn.ct
theorem Lk.sm {R : Res} {Gb Gs G1 : Hp} {κ : List Cell → (Nat → Prop) → Prop} {P : L2.St → Hp → Prop} (l : Lk R Gb Gs κ P) (s : Same Gs G1) : Lk R Gb G1 κ P := fun ρ' b σ' G' H' m' h hb S g s' => l ρ' b σ' G' H' m' h hb S g (s.trans s')
theorem Ls.sm {α : Type} {R : Res} {rk : RK α} {Gb Gs G1 : Hp} {κ : Kt} {q : α → Nat → Prop} {Dn : Ends} (l : Ls R rk Gb Gs κ q Dn) (s : Same Gs G1) : Ls R rk Gb G1 κ q Dn := ⟨l.rt, l.nx.sm s, l.bk.sm s, l.ct.sm s⟩
def tK {α : Type} (R : Res) (rk : RK α) (ρ : List Cell) (κ : Kt) (q : α → Nat → Prop) (a : Nat → Prop) : TS := fun Dn σ H => ∃ Gb G m, Sit R σ ρ G H m ∧ Grow R.vol Gb R.ent G H ∧ a m ∧ Ls R rk Gb G κ q Dn
def JK {α : Type} (X : Cx) (R : Res) (rk : RK α) (ρ : List Cell) (st : List Stmt) (κ : Kt) (q : α → Nat → Prop) (a : Nat → Prop) : Prop := PSs X st (tK R rk ρ κ q a)
theorem PSs.imp {X : Cx} {st : List Stmt} {t t' : TS} (h : PSs X st t) (k : ∀ Dn σ H, t' Dn σ H → t Dn σ H) : PSs X st t' := ⟨fun pins s σ H Dn I q => h.run pins s σ H Dn I (k Dn σ H q)⟩
theorem PS.imp {X : Cx} {st : Stmt} {t t' : TS} (h : PS X st t) (k : ∀ Dn σ H, t' Dn σ H → t Dn σ H) : PS X st t' := ⟨fun pins s σ H Dn I q => h.run pins s σ H Dn I (k Dn σ H q)⟩
theorem pss_any {X : Cx} {st : List Stmt} {ι : Type} {t : ι → TS} (h : ∀ i, PSs X st (t i)) : PSs X st (fun Dn σ H => ∃ i, t i Dn σ H) := ⟨fun pins s σ H Dn I ⟨i, q⟩ => (h i).run pins s σ H Dn I q⟩
section
variable {α : Type} {X : Cx} {R : Res} {rk : RK α} {ρ : List Cell} {st : Stmt} {rest : List Stmt} {κ : Kt} {q : α → Nat → Prop} {e : Expr} {pos : Pos}
theorem Sit.tr {σ : L2.St} {Gb G H G1 H1 : Hp} {m : Nat} (S : Sit R σ ρ G H m) (g0 : Grow R.vol Gb R.ent G H) (g : Grow R.vol G H G1 H1) : Grow R.vol Gb R.ent G1 H1 := g0.trans S.vh g
theorem JK.imp {st : List Stmt} {a a' : Nat → Prop} (h : JK X R rk ρ st κ q a) (k : ∀ m, a' m → a m) : JK X R rk ρ st κ q a' := PSs.imp h fun _ _ _ ⟨Gb, G, m, S, g, t, r⟩ => ⟨Gb, G, m, S, g, k m t, r⟩
theorem JK.kmono {st : List Stmt} {κ' : Kt} {a : Nat → Prop} (h : JK X R rk ρ st κ q a) (k1 : ∀ ρ b, κ.nx ρ b → κ'.nx ρ b) (k2 : ∀ ρ b, κ.bk ρ b → κ'.bk ρ b) (k3 : ∀ ρ b, κ.ct ρ b → κ'.ct ρ b) : JK X R rk ρ st κ' q a :=
  PSs.imp h fun _ _ _ ⟨Gb, G, m, S, g, t, ls⟩ => ⟨Gb, G, m, S, g, t, ls.rt, fun ρ' b σ' G' H' m' h => ls.nx ρ' b σ' G' H' m' (k1 _ _ h), fun ρ' b σ' G' H' m' h => ls.bk ρ' b σ' G' H' m' (k2 _ _ h), fun ρ' b σ' G' H' m' h => ls.ct ρ' b σ' G' H' m' (k3 _ _ h)⟩
theorem jk_nil {a : Nat → Prop} (h : κ.nx ρ a) : JK X R rk ρ [] κ q a := PSs.imp pss_nil fun _ σ H ⟨Gb, G, m, S, g, t, ls⟩ => ls.nx ρ a σ G H m h t S g (Same.refl _)
theorem jk_pass {a : Nat → Prop} (hr : JK X R rk ρ rest κ q a) : JK X R rk ρ (.Pass pos :: rest) κ q a := PSs.imp (pss_cons ps_pass hr) fun _ _ _ h => h
theorem jk_break {a : Nat → Prop} (h : κ.bk ρ a) : JK X R rk ρ (.Break pos :: rest) κ q a := PSs.imp (pss_cons ps_break pss_never) fun _ σ H ⟨Gb, G, m, S, g, t, ls⟩ => ls.bk ρ a σ G H m h t S g (Same.refl _)
theorem jk_cont {a : Nat → Prop} (h : κ.ct ρ a) : JK X R rk ρ (.Continue pos :: rest) κ q a := PSs.imp (pss_cons ps_continue pss_never) fun _ σ H ⟨Gb, G, m, S, g, t, ls⟩ => ls.ct ρ a σ G H m h t S g (Same.refl _)
/-- a statement that stores a datum to slot i -/
theorem jk_st {T : M D} {i : Nat} {k : D → Nat → Prop} (hs : PS X st (tAsg (tJ R ρ T) (gName i))) (hr : ∀ d, JK X R rk (ρ.set i (.dat d)) rest κ q (k d)) : JK X R rk ρ (st :: rest) κ q (T k) :=
  PSs.imp (pss_cons hs (pss_any hr)) fun Dn σ H ⟨Gb, G, m, S, g, t, ls⟩ => ⟨G, m, _, S, t, fun v d G1 H1 m1 S1 g1 r1 q1 => ⟨d, Gb, G1, m1, S1.setD i r1, S.tr g g1, q1, ls.sm g1.gg⟩⟩
/-- .. a new list, one's own -/
theorem jk_stL {T : M (List D)} {i : Nat} {k : List D → Nat → Prop} (hs : PS X st (tAsg (tL R ρ T) (gName i))) (hr : ∀ ds, JK X R rk (ρ.set i (.own ds)) rest κ q (k ds)) : JK X R rk ρ (st :: rest) κ q (T k) :=
  PSs.imp (pss_cons hs (pss_any hr)) fun Dn σ H ⟨Gb, G, m, S, g, t, ls⟩ => ⟨G, m, _, S, t, fun p vs ds G1 H1 m1 S1 g1 hp gp hp1 r1 q1 => ⟨ds, Gb, G1, m1, S1.setO i gp (fun v => S.vh p v hp) (S.en p hp) hp1 r1 (fun j es e z => by
    obtain ⟨l, ws, e2, _, _, _, hl, _⟩ := S.ownT e
    rw [z] at e2
    cases e2
    rw [hp] at hl
    cases hl), S.tr g g1, q1, ls.sm g1.gg⟩⟩
/-- the stores -/
theorem st_set {i : Nat} {x : Str} {p' : Pos} {T : M D} (he : JM X R ρ e T) (hN : X.N.Nodup) (hi : X.N[i]? = some x := by rfl) (hx : Loc X.env.scope x := by first | exact Or.inl rfl | exact Or.inr rfl) (hs : swapsWith e (some (.Name x p')) pos.line X.env = pure false := by rfl)
    (hf : X.fn x = true ∨ X.env.scope.names.lookup x = some .local := by first | exact .inl rfl | exact .inr rfl) : PS X (.Assign [.Name x p'] e pos) (tAsg (tJ R ρ T) (gName i)) := ps_set hN hi hx he hs hf
theorem st_setL {i : Nat} {x : Str} {p' : Pos} {T : M (List D)} (he : JL X R ρ e T) (hN : X.N.Nodup) (hi : X.N[i]? = some x := by rfl) (hx : Loc X.env.scope x := by first | exact Or.inl rfl | exact Or.inr rfl) (hs : swapsWith e (some (.Name x p')) pos.line X.env = pure false := by rfl)
    (hf : X.fn x = true ∨ X.env.scope.names.lookup x = some .local := by first | exact .inl rfl | exact .inr rfl) : PS X (.Assign [.Name x p'] e pos) (tAsg (tL R ρ T) (gName i)) := ps_set hN hi hx he hs hf
/-- a new list that all may know -/
theorem tL_tJ {T : M (List D)} (σ : L2.St) (H : Hp) (Q : VK) (h : tJ R ρ (fun q => T fun ds => q (.list ds)) σ H Q) : tL R ρ T σ H Q := by
  obtain ⟨G, m, q, S, t, c⟩ := h
  refine ⟨G, m, _, S, t, fun p vs ds G' H' m' S' g hp gp hp' r hq => ?_⟩
  obtain ⟨g1, g2⟩ := grow_share S'.gh gp hp'
  have g' : Grow R.vol G H (upd G' p (.lst vs)) H' := ⟨g.gg.trans g1, g.hh, fun x gx hx => by
    by_cases e : x = p
    · subst e; exact absurd hp hx
    · rw [upd_ne e]; exact g.new x gx hx⟩
  exact c _ _ _ _ m' (S.grow g' g2 S'.vh S'.jd) g' (.lst upd_same (r.mono g1)) hq
theorem st_shr {i : Nat} {T : M (List D)} (h : PS X st (tAsg (tL R ρ T) (gName i))) : PS X st (tAsg (tJ R ρ fun q => T fun ds => q (.list ds)) (gName i)) := PS.imp h fun Dn σ H q => tL_tJ σ H _ q
theorem tL_lend {T : M (List D)} (σ : L2.St) (H : Hp) (Q : VK) (h : tL R ρ (fun q => T fun ds m => immL ds = true ∧ q ds m) σ H Q) : tL R (brw ρ) T σ H Q := by
  obtain ⟨G, m, q, S, t, k⟩ := h
  refine ⟨_, m, _, S.lend, t, fun p vs ds G2 H2 m2 S2 g2 hp gp hp2 r2 q2 => ?_⟩
  obtain ⟨S3, g3, tt⟩ := S.unbor S2 g2
  refine k p vs ds _ H2 m2 S3 g3 hp ?_ hp2 (r2.keep tt q2.1) q2.2
  unfold uns
  by_cases w : Owned σ ρ p
  · rw [if_pos w]
  · rw [if_neg w]; exact gp
theorem st_lend {i : Nat} {T : M (List D)} (h : PS X st (tAsg (tL R (brw ρ) T) (gName i))) : PS X st (tAsg (tL R ρ fun q => T fun ds m => immL ds = true ∧ q ds m) (gName i)) := PS.imp h fun Dn σ H q => tL_lend σ H _ q
theorem jk_ret {T : M D} {q : D → Nat → Prop} (he : JM X R ρ e T) : JK X R .dat ρ (.Return (some e) pos :: rest) κ q (T q) :=
  PSs.imp (pss_cons (ps_ret he) pss_never) fun Dn σ H ⟨Gb, G, m, S, g, t, ls⟩ => ⟨G, m, _, S, t, fun v d G1 H1 m1 S1 g1 r1 q1 => ls.rt v d G1 H1 m1 S1.toSat (S.tr g g1) r1 q1⟩
theorem jk_retN {q : D → Nat → Prop} : JK X R .dat ρ (.Return none pos :: rest) κ q (q .none) :=
  PSs.imp (pss_cons ps_retN pss_never) fun Dn σ H ⟨Gb, G, m, S, g, t, ls⟩ => ls.rt _ _ G H m S.toSat g .non t
theorem jk_retL {T : M (List D)} {q : List D → Nat → Prop} (he : JL X R ρ e T) : JK X R .lst ρ (.Return (some e) pos :: rest) κ q (T q) :=
  PSs.imp (pss_cons (ps_ret he) pss_never) fun Dn σ H ⟨Gb, G, m, S, g, t, ls⟩ => ⟨G, m, _, S, t, fun p vs ds G1 H1 m1 S1 g1 hp gp hp1 r1 q1 => ls.rt _ ds G1 H1 m1 S1.toSat (S.tr g g1) ⟨p, vs, rfl, S.en p hp, gp, hp1, r1⟩ q1⟩
/-- return of one's own list -/
theorem jk_retO (i : Nat) {x : Str} {ds : List D} {px : Pos} {q : List D → Nat → Prop} (hρ : ρ[i]? = some (.own ds) := by rfl) (hN : X.N[i]? = some x := by rfl) (hv : Vis X.env.scope x := by first | exact Or.inl rfl | exact Or.inr (Or.inl rfl) | exact Or.inr (Or.inr rfl)) (hd : (x == ("__debug__" : Str)) = false := by decide)
    (hcd : (x == ("__classdict__" : Str)) = false := by decide) : JK X R .lst ρ (.Return (some (.Name x px)) pos :: rest) κ q (q ds) :=
  PSs.imp (pss_cons (ps_ret (pe_var (i := i) hN hv hd hcd)) pss_never) fun Dn σ H ⟨Gb, G, m, S, g0, t, ls⟩ => by
    obtain ⟨l, vs, e, g, n, en, hl, rr⟩ := S.ownT hρ
    exact ⟨_, e, ls.rt _ ds G H m S.toSat g0 ⟨l, vs, rfl, en, g, hl, rr⟩ t⟩
theorem jk_if {c : Expr} {A B : List Stmt} {Tc : M Bool} {aA aB : Nat → Prop} (hc : JT X R ρ c Tc) (hA : JK X R rk ρ A ⟨fun ρ' b => JK X R rk ρ' rest κ q b, κ.bk, κ.ct⟩ q aA) (hB : JK X R rk ρ B ⟨fun ρ' b => JK X R rk ρ' rest κ q b, κ.bk, κ.ct⟩ q aB) :
    JK X R rk ρ (.If c A B pos :: rest) κ q (Tc fun t m => if t = true then aA m else aB m) := by
  have hrest : PSs X rest (fun Dn σ H => ∃ z : { z : List Cell × (Nat → Prop) // JK X R rk z.1 rest κ q z.2 }, tK R rk z.1.1 κ q z.1.2 Dn σ H) := pss_any fun z => z.2
  refine PSs.imp (pss_cons (ps_if hc hA hB) hrest) fun Dn σ H ⟨Gb, G, m, S, g, t, ls⟩ => ⟨G, m, _, S, t, fun b G1 H1 m1 S1 g1 q1 => ?_⟩
  have nx : Ls R rk Gb G1 ⟨fun ρ' b => JK X R rk ρ' rest κ q b, κ.bk, κ.ct⟩ q { Dn with nx := fun σ' H' => ∃ z : { z : List Cell × (Nat → Prop) // JK X R rk z.1 rest κ q z.2 }, tK R rk z.1.1 κ q z.1.2 Dn σ' H' } :=
    ⟨ls.rt, fun ρ' b σ' G' H' m' h hb S' g' s' => ⟨⟨(ρ', b), h⟩, Gb, G', m', S', g', hb, ls.sm (g1.gg.trans s')⟩, ls.bk.sm g1.gg, ls.ct.sm g1.gg⟩
  cases b with
  | true =>
    show tK R rk ρ _ q aA _ σ H1
    exact ⟨Gb, G1, m1, S1, S.tr g g1, q1, nx⟩
  | false =>
    show tK R rk ρ _ q aB _ σ H1
    exact ⟨Gb, G1, m1, S1, S.tr g g1, q1, nx⟩
/-- an expression whose value is dropped -/
theorem jk_expr {T : M D} {a : Nat → Prop} (he : JM X R ρ e T) (hr : JK X R rk ρ rest κ q a) (hs : swapsWith e none pos.line X.env = pure false := by rfl) : JK X R rk ρ (.Expr e pos :: rest) κ q (T fun _ => a) :=
  PSs.imp (pss_cons (ps_expr he hs) hr) fun Dn σ H ⟨Gb, G, m, S, g, t, ls⟩ => ⟨G, m, _, S, t, fun v d G1 H1 m1 S1 g1 r1 q1 => ⟨Gb, G1, m1, S1, S.tr g g1, q1, ls.sm g1.gg⟩⟩
/-- a, b = a datum -/
def un2M : D → (D → D → Nat → Prop) → Nat → Prop
  | .tuple [a, b], k => k a b
  | _, _ => fun _ => False
def un3M : D → (D → D → D → Nat → Prop) → Nat → Prop
  | .tuple [a, b, c], k => k a b c
  | _, _ => fun _ => False
theorem jk_un2 {T : M D} {tg : Expr} {i j : Nat} {k : D → D → Nat → Prop} (he : JM X R ρ e T) (hg : JG X R tg [i, j] (bdT [i, j])) (hr : ∀ a b, JK X R rk ((ρ.set i (.dat a)).set j (.dat b)) rest κ q (k a b))
    (hs : swapsWithSole [tg] e pos.line X.env = pure false := by rfl) (hw : swappedStores [tg] e X.env = pure none := by rfl) (h1 : (assignEach [tg] X.env).map (·.2) = [assign tg X.env] := by rfl) : JK X R rk ρ (.Assign [tg] e pos :: rest) κ q (T fun d => un2M d k) :=
  PSs.imp (pss_cons (ps_asg he hg hs hw h1) (pss_any fun z : D × D => hr z.1 z.2)) fun Dn σ H ⟨Gb, G, m, S, g, t, ls⟩ => ⟨G, m, _, S, t, fun v d G1 H1 m1 S1 g1 r1 q1 => by
    match d, r1, q1 with
    | .tuple [a, b], r1, q1 => exact ⟨G1, m1, _, _, _, S1, r1, rfl, fun σ' S' _ _ => ⟨(a, b), Gb, G1, m1, S', S.tr g g1, q1, ls.sm g1.gg⟩⟩⟩
theorem jk_un3 {T : M D} {tg : Expr} {i j l : Nat} {k : D → D → D → Nat → Prop} (he : JM X R ρ e T) (hg : JG X R tg [i, j, l] (bdT [i, j, l])) (hr : ∀ a b c, JK X R rk (((ρ.set i (.dat a)).set j (.dat b)).set l (.dat c)) rest κ q (k a b c))
    (hs : swapsWithSole [tg] e pos.line X.env = pure false := by rfl) (hw : swappedStores [tg] e X.env = pure none := by rfl) (h1 : (assignEach [tg] X.env).map (·.2) = [assign tg X.env] := by rfl) : JK X R rk ρ (.Assign [tg] e pos :: rest) κ q (T fun d => un3M d k) :=
  PSs.imp (pss_cons (ps_asg he hg hs hw h1) (pss_any fun z : D × D × D => hr z.1 z.2.1 z.2.2)) fun Dn σ H ⟨Gb, G, m, S, g, t, ls⟩ => ⟨G, m, _, S, t, fun v d G1 H1 m1 S1 g1 r1 q1 => by
    match d, r1, q1 with
    | .tuple [a, b, c], r1, q1 => exact ⟨G1, m1, _, _, _, S1, r1, rfl, fun σ' S' _ _ => ⟨(a, b, c), Gb, G1, m1, S', S.tr g g1, q1, ls.sm g1.gg⟩⟩⟩
/-- x += n -/
theorem jk_augI {T : M D} {i : Nat} {x : Str} {p' : Pos} {d : D} {k : D → Nat → Prop} (he : JM X R ρ e T) (hr : ∀ d, JK X R rk (ρ.set i (.dat d)) rest κ q (k d)) (hN : X.N.Nodup) (hρ : ρ[i]? = some (.dat d) := by rfl) (hi : X.N[i]? = some x := by rfl) (hx : Loc X.env.scope x := by first | exact Or.inl rfl | exact Or.inr rfl)
    (hf : X.fn x = true ∨ X.env.scope.names.lookup x = some .local := by first | exact .inl rfl | exact .inr rfl) : JK X R rk ρ (.AugAssign (.Name x p') .Add e pos :: rest) κ q (T fun y m => ∃ a b, d = .int a ∧ y = .int b ∧ k (.int (a + b)) m) :=
  PSs.imp (pss_cons (ps_aug hN hi hx he ip_add hf) (pss_any hr)) fun Dn σ H ⟨Gb, G, m, S, g, t, ls⟩ => by
    obtain ⟨v, e1, rv⟩ := S.cell i _ hρ
    refine ⟨v, e1, G, m, _, S, t, fun w y G1 H1 m1 S1 g1 r1 q1 => ?_⟩
    obtain ⟨a, b, rfl, rfl, q1⟩ := q1
    cases rv
    cases r1
    exact ⟨a, b, rfl, rfl, .int (a + b), Gb, G1, m1, S1.setD i (.int _), S.tr g g1, q1, ls.sm g1.gg⟩
/-- x += a new list -/
theorem jk_augL {T : M (List D)} {i : Nat} {x : Str} {p' : Pos} {ds : List D} {k : List D → Nat → Prop} (he : JL X R ρ e T) (hr : ∀ ds, JK X R rk (ρ.set i (.own ds)) rest κ q (k ds)) (hN : X.N.Nodup) (hρ : ρ[i]? = some (.own ds) := by rfl) (hi : X.N[i]? = some x := by rfl) (hx : Loc X.env.scope x := by first | exact Or.inl rfl | exact Or.inr rfl)
    (hf : X.fn x = true ∨ X.env.scope.names.lookup x = some .local := by first | exact .inl rfl | exact .inr rfl) : JK X R rk ρ (.AugAssign (.Name x p') .Add e pos :: rest) κ q (T fun es m => ds.length + es.length ≤ sizeLine ∧ k (ds ++ es) m) :=
  PSs.imp (pss_cons (ps_aug hN hi hx he iop_ext hf) (pss_any hr)) fun Dn σ H ⟨Gb, G, m, S, g, t, ls⟩ => by
    obtain ⟨l, vs, e1, gl, nv, en, hl, rv⟩ := S.ownT hρ
    refine ⟨.ref l, e1, G, m, _, S, t, fun p ws es G1 H1 m1 S1 g1 hp gp hp1 r1 q1 => ?_⟩
    obtain ⟨hz, q1⟩ := q1
    have h1 := g1.hh l _ nv hl
    have rv1 := rv.mono g1.gg
    refine ⟨l, p, vs, ws, rfl, rfl, h1, hp1, by rw [rv.length, r1.length]; exact hz, ?_⟩
    obtain ⟨S2, gg⟩ := S1.write (vs := vs ++ ws) hρ e1 (rv1.append r1)
    have e : σ.set i (some (.ref l)) = σ := List.ext_getElem? fun j => by
      by_cases z : i = j
      · subst z
        rw [List.getElem?_set_self (List.getElem?_eq_some_iff.mp e1).1, e1]
      · rw [List.getElem?_set_ne z]
    refine ⟨ds ++ es, ?_⟩
    rw [e]
    exact ⟨Gb, G1, m1, S2, gg en (S.tr g g1), q1, ls.sm g1.gg⟩
end
end Dl

set_option Elab.async false
set_option linter.all false
set_option autoImplicit false
set_option maxRecDepth 100000
set_option maxHeartbeats 1000000
namespace Dl
open PySem L2

/-! ### loops -/
def forK {S : Type} (body : S → D → (S → Nat → Prop) → Nat → Prop) : List D → S → (S → Nat → Prop) → Nat → Prop
  | [], s, k => k s
  | d :: ds, s, k => body s d fun s' => forK body ds s' k
def whileK {S : Type} (c : S → M Bool) (body : S → (S → Nat → Prop) → Nat → Prop) : Nat → S → (S → Nat → Prop) → Nat → Prop
  | 0, _, _ => fun _ => False
  | n + 1, s, k => c s fun t m => if t = true then body s (fun s' => whileK c body n s' k) m else k s m
/-- the body's ways out: its next turn, the loop's end -/
def KtL {S : Type} (env : S → List Cell) (kk : S → Nat → Prop) (bk : List Cell → (Nat → Prop) → Prop) : Kt :=
  ⟨fun ρ' b => ∃ s', Wk ρ' (env s') ∧ ∀ m, b m → kk s' m, bk, fun ρ' b => ∃ s', Wk ρ' (env s') ∧ ∀ m, b m → kk s' m⟩
section
variable {α S : Type} {X : Cx} {R : Res} {rk : RK α} {ρ : List Cell} {rest body : List Stmt} {κ : Kt} {q : α → Nat → Prop} {tg iter c : Expr} {pos : Pos} {env : S → List Cell} {s0 : S} {k : S → Nat → Prop}
/-- a block by any of its forms -/
def tbF (X : Cx) (R : Res) (rk : RK α) (body rest : List Stmt) (env : S → List Cell) (κ : Kt) (q : α → Nat → Prop) : TS := fun Dn σ H => ∃ z : { z : List Cell × (S → Nat → Prop) × (Nat → Prop) // JK X R rk z.1 body (KtL env z.2.1 fun ρ' b => JK X R rk ρ' rest κ q b) q z.2.2 }, tK R rk z.1.1 (KtL env z.1.2.1 fun ρ' b => JK X R rk ρ' rest κ q b) q z.1.2.2 Dn σ H
def tbR (X : Cx) (R : Res) (rk : RK α) (rest : List Stmt) (κ : Kt) (q : α → Nat → Prop) : TS := fun Dn σ H => ∃ z : { z : List Cell × (Nat → Prop) // JK X R rk z.1 rest κ q z.2 }, tK R rk z.1.1 κ q z.1.2 Dn σ H
theorem tbF_ok : PSs X body (tbF X R rk body rest env κ q) := pss_any fun z => z.2
theorem tbR_ok : PSs X rest (tbR X R rk rest κ q) := pss_any fun z => z.2
theorem jk_for {Ti : M (List D)} {sl : List Nat} {bd : List Cell → D → Option (List Cell)} {bodyM : S → D → (S → Nat → Prop) → Nat → Prop} {n : Nat} (B : Bx X n) (hi : JI X R ρ tg iter Ti) (hg : JG X R tg sl bd) (w0 : Wk ρ (env s0))
    (hb : ∀ (s : S) (d : D) (kk : S → Nat → Prop) (m : Nat), bodyM s d kk m → ∃ ρ', bd (env s) d = some ρ' ∧ JK X R rk ρ' body (KtL env kk fun ρ' b => JK X R rk ρ' rest κ q b) q (bodyM s d kk))
    (hr : ∀ s, JK X R rk (env s) rest κ q (k s)) (hs : ∀ x, foldedSetIterable iter X.env x = pure x := by intro _; rfl) : JK X R rk ρ (.For tg iter body [] pos :: rest) κ q (Ti fun ds => forK bodyM ds s0 k) := by
  refine PSs.imp (pss_cons (ps_for B.ps B.hc hi hg (tbF_ok (R := R) (rk := rk) (rest := rest) (env := env) (κ := κ) (q := q)) hs) (tbR_ok (R := R) (rk := rk) (κ := κ) (q := q))) fun Dn σ H ⟨Gb, G, m, S0, g, t, ls⟩ => ⟨G, m, _, S0, t, fun J ds G1 H1 m1 S1 g1 W q1 => ?_⟩
  have WW : Walk J ds.length (fun H' => Same G1 H') (fun i H' x H'' => ∃ d, ds[i]? = some d ∧ ((H'' = H' ∧ Rp G1 x d) ∨ ∃ p vs es, x = .ref p ∧ H' p = none ∧ H'' = upd H' p (.tup vs) ∧ d = .tuple es ∧ RpL G1 vs es)) :=
    ⟨fun i H' hi s => W.go i H' s hi, fun H' s => W.stop H' s, fun i H' x H'' hi s y => W.yld i H' x H'' s hi y⟩
  refine for_it (g := tG R sl bd) (tb := tbF X R rk body rest env κ q) (D := { Dn with nx := tbR X R rk rest κ q Dn }) WW (fun i σ' H' => ∃ (s : S) (Gi : Hp) (mi : Nat), Sit R σ' (env s) Gi H' mi ∧ Grow R.vol Gb R.ent Gi H' ∧ Same G1 Gi ∧ forK bodyM (ds.drop i) s k mi)
    ⟨s0, G1, m1, S1.weak w0, S0.tr g g1, Same.refl _, q1⟩ (fun i σ' H' _ h => by obtain ⟨s, Gi, mi, S', _, sg, _⟩ := h; exact sg.trans S'.gh) ?_ ?_
  · rintro i x σ' Hi Hi' hlt ⟨s, Gi, mi, S', g', sg, hq⟩ ⟨d, hd, hy⟩
    have hdrop : ds.drop i = d :: ds.drop (i + 1) := by
      obtain ⟨h1, h2⟩ := List.getElem?_eq_some_iff.mp hd
      rw [List.drop_eq_getElem_cons h1, h2]
    rw [hdrop] at hq
    obtain ⟨ρ', hbd, hk⟩ := hb s d _ mi hq
    have item : ∃ Gj, Grow R.vol Gb R.ent Gj Hi' ∧ Sit R σ' (env s) Gj Hi' mi ∧ Same G1 Gj ∧ Rp Gj x d := by
      rcases hy with ⟨rfl, rx⟩ | ⟨p, ws, es, rfl, hp, rfl, rfl, rx⟩
      · exact ⟨Gi, g', S', sg, rx.mono sg⟩
      · obtain ⟨g2, s2⟩ := grow_new S'.gh hp (.tup ws)
        obtain ⟨S2, g2'⟩ := S'.growS g2 s2
        exact ⟨_, g'.trans S'.vh g2', S2, sg.trans g2.gg, .tup upd_same (rx.mono (sg.trans g2.gg))⟩
    obtain ⟨Gj, gj, Sj, sgj, rx⟩ := item
    have turn : ∀ (ρ2 : List Cell) (b : Nat → Prop) (σ3 : L2.St) (G3 H3 : Hp) (m3 : Nat), (∃ s', Wk ρ2 (env s') ∧ ∀ m, b m → forK bodyM (ds.drop (i + 1)) s' k m) → b m3 → Sit R σ3 ρ2 G3 H3 m3 → Grow R.vol Gb R.ent G3 H3 → Same Gj G3 →
        ∃ (s : S) (Gi : Hp) (mi : Nat), Sit R σ3 (env s) Gi H3 mi ∧ Grow R.vol Gb R.ent Gi H3 ∧ Same G1 Gi ∧ forK bodyM (ds.drop (i + 1)) s k mi := fun ρ2 b σ3 G3 H3 m3 ⟨s', w', hb'⟩ hb3 S3 g3 s3 => ⟨s', G3, m3, S3.weak w', g3, sgj.trans s3, hb' _ hb3⟩
    exact ⟨Gj, mi, d, env s, ρ', Sj, rx, hbd, fun σ2 S2 _ _ => ⟨⟨(ρ', _, _), hk⟩, Gb, Gj, mi, S2, gj, hq, ls.rt, turn, fun ρ2 b σ3 G3 H3 m3 h hb3 S3 g3 s3 => ⟨⟨(ρ2, b), h⟩, Gb, G3, m3, S3, g3, hb3, ls.sm (g1.gg.trans (sgj.trans s3))⟩, turn⟩⟩
  · rintro σ' H' ⟨s, Gi, mi, S', g', sg, hq⟩
    rw [List.drop_length] at hq
    exact ⟨⟨(env s, k s), hr s⟩, Gb, Gi, mi, S', g', hq, ls.sm (g1.gg.trans sg)⟩
/-- while: n, more turns than there are -/
theorem jk_while {Tc : S → M Bool} {bodyM : S → (S → Nat → Prop) → Nat → Prop} {n l : Nat} (B : Bx X l) (w0 : Wk ρ (env s0)) (hc : ∀ s, JT X R (env s) c (Tc s))
    (hb : ∀ (s : S) (kk : S → Nat → Prop), JK X R rk (env s) body (KtL env kk fun ρ' b => JK X R rk ρ' rest κ q b) q (bodyM s kk)) (hr : ∀ s, JK X R rk (env s) rest κ q (k s)) : JK X R rk ρ (.While c body [] pos :: rest) κ q (whileK Tc bodyM n s0 k) := by
  have hcc : PT X c (fun σ H Q => ∃ s, tT R (env s) (Tc s) σ H Q) := ⟨fun pins s2 σ H Q I ⟨s, q⟩ => (hc s).run pins s2 σ H Q I q⟩
  refine PSs.imp (pss_cons (ps_while B.ps hcc (tbF_ok (R := R) (rk := rk) (rest := rest) (env := env) (κ := κ) (q := q))) (tbR_ok (R := R) (rk := rk) (κ := κ) (q := q))) fun Dn σ H ⟨Gb, G, m, S0, g, t, ls⟩ => ?_
  refine ⟨fun i σ' H' => ∃ (s : S) (Gi : Hp) (mi : Nat), Sit R σ' (env s) Gi H' mi ∧ Grow R.vol Gb R.ent Gi H' ∧ Same G Gi ∧ whileK Tc bodyM i s k mi, ⟨n, s0, G, m, S0.weak w0, g, Same.refl _, t⟩, ?_⟩
  rintro i σ' H' ⟨s, Gi, mi, S', g', sg, hq⟩
  cases i with
  | zero => exact hq.elim
  | succ i =>
    refine ⟨s, Gi, mi, _, S', hq, fun b G1 H1 m1 S1 g1 q1 => ?_⟩
    have g2 := S'.tr g' g1
    cases b with
    | false =>
      show tbR X R rk rest κ q Dn σ' H1
      exact ⟨⟨(env s, k s), hr s⟩, Gb, G1, m1, S1, g2, q1, ls.sm (sg.trans g1.gg)⟩
    | true =>
      show ∃ N, _
      have turn : ∀ (ρ2 : List Cell) (b : Nat → Prop) (σ3 : L2.St) (G3 H3 : Hp) (m3 : Nat), (∃ s', Wk ρ2 (env s') ∧ ∀ m, b m → whileK Tc bodyM i s' k m) → b m3 → Sit R σ3 ρ2 G3 H3 m3 → Grow R.vol Gb R.ent G3 H3 → Same G1 G3 →
          ∃ (s : S) (Gi : Hp) (mi : Nat), Sit R σ3 (env s) Gi H3 mi ∧ Grow R.vol Gb R.ent Gi H3 ∧ Same G Gi ∧ whileK Tc bodyM i s k mi := fun ρ2 b σ3 G3 H3 m3 ⟨s', w', hb'⟩ hb3 S3 g3 s3 => ⟨s', G3, m3, S3.weak w', g3, (sg.trans g1.gg).trans s3, hb' _ hb3⟩
      exact ⟨_, fun σ3 H3 h => ⟨i, Nat.lt_succ_self i, h⟩, ⟨(env s, _, _), hb s _⟩, Gb, G1, m1, S1, g2, q1, ls.rt, turn, fun ρ2 b σ3 G3 H3 m3 h hb3 S3 g3 s3 => ⟨⟨(ρ2, b), h⟩, Gb, G3, m3, S3, g3, hb3, ls.sm (sg.trans (g1.gg.trans s3))⟩, turn⟩
end
end Dl

set_option Elab.async false
set_option linter.all false
set_option autoImplicit false
set_option maxRecDepth 100000
set_option maxHeartbeats 1000000
namespace Dl
open PySem L2

/-! ### one's own lists, written -/
section
variable {α : Type} {X : Cx} {R : Res} {rk : RK α} {ρ : List Cell} {st : Stmt} {rest : List Stmt} {κ : Kt} {q : α → Nat → Prop} {e ix : Expr} {pos p1 p2 p3 : Pos} {x : Str} {ds : List D}
theorem jk_app {T : M D} (i : Nat) {k : D → Nat → Prop} (he : JM X R ρ e T) (hr : ∀ d, JK X R rk (ρ.set i (.own (ds ++ [d]))) rest κ q (k d)) (hρ : ρ[i]? = some (.own ds) := by rfl) (hN : X.N[i]? = some x := by rfl)
    (hv : Vis X.env.scope x := by first | exact Or.inl rfl | exact Or.inr (Or.inl rfl) | exact Or.inr (Or.inr rfl)) (hd : (x == ("__debug__" : Str)) = false := by decide) (hcd : (x == ("__classdict__" : Str)) = false := by decide)
    (hs : swapsWith (.Call (.Attribute (.Name x p1) "append" p2) [e] [] p3) none pos.line X.env = pure false := by rfl) (hbase : attributeBase (.Name x p1) "append" X.env (eval (.Name x p1) X.env) = eval (.Name x p1) X.env := by rfl)
    (hfew : ((backTo p3 (starEach (e :: []) X.env)).all (fun x => !x.1) && (backToKw p3 (keywordEach [] X.env)).all (fun x => x.1.isSome) && decide ((e :: ([] : List Expr)).length + ([] : List Keyword).length + (if ([] : List Keyword).isEmpty then 0 else 1) < 30)) = true := by rfl)
    (hline : (p2.endLine == p3.line) = true := by rfl) (hst : starEach (e :: []) X.env = (false, eval e X.env) :: starEach [] X.env := by rfl) (hpl : (backTo p3 (starEach [] X.env)).any (·.1) = false := by rfl) :
    JK X R rk ρ (.Expr (.Call (.Attribute (.Name x p1) "append" p2) [e] [] p3) pos :: rest) κ q (T fun d m => ds.length < sizeLine ∧ k d m) :=
  PSs.imp (pss_cons (ps_expr (pe_bm PySem.F.plainAttrs_list PySem.F.slot_list_append PySem.F.type_list_append mt_append (pe_var (i := i) hN hv hd hcd) (pa_cons he pa_nil hst) hbase hfew hline hst hpl) hs) (pss_any hr)) fun Dn σ H ⟨Gb, G, m, S, g, t, ls⟩ => by
    obtain ⟨l, vs, e1, gl, nv, en, hl, rv⟩ := S.ownT hρ
    refine ⟨.ref l, e1, .inl ⟨rfl, _, .inl (.inl hl)⟩, G, m, _, S, t, fun v d G1 H1 m1 S1 g1 r1 q1 => ?_⟩
    have h1 := g1.hh l _ nv hl
    have rv1 := rv.mono g1.gg
    obtain ⟨S2, gg⟩ := S1.write (vs := vs ++ [v]) hρ e1 (rv1.append (.cons r1 .nil))
    exact ⟨l, vs, v, rfl, rfl, h1, by rw [rv.length]; exact q1.1, d, Gb, G1, m1, S2, gg en (S.tr g g1), q1.2, ls.sm g1.gg⟩
theorem jk_setI {T Ti : M D} (i : Nat) {k : List D → Nat → Prop} (he : JM X R ρ e T) (hi : JM X R ρ ix Ti) (hr : ∀ ds, JK X R rk (ρ.set i (.own ds)) rest κ q (k ds)) (hρ : ρ[i]? = some (.own ds) := by rfl) (hN : X.N[i]? = some x := by rfl)
    (hv : Vis X.env.scope x := by first | exact Or.inl rfl | exact Or.inr (Or.inl rfl) | exact Or.inr (Or.inr rfl)) (hd : (x == ("__debug__" : Str)) = false := by decide) (hcd : (x == ("__classdict__" : Str)) = false := by decide)
    (ha : ∀ v, assign (.Subscript (.Name x p1) ix p2) X.env v = (do
      let ov ← holding [v] (eval (.Name x p1) X.env)
      let iv ← holding [v, ov] (eval ix X.env)
      standAt p2
      holding [v, ov, iv] (setItem ov iv v)
      release [v, ov, iv] []) := by intro _; rfl)
    (hs : swapsWithSole [.Subscript (.Name x p1) ix p2] e pos.line X.env = pure false := by rfl) (hw : swappedStores [.Subscript (.Name x p1) ix p2] e X.env = pure none := by rfl) (h1 : (assignEach [.Subscript (.Name x p1) ix p2] X.env).map (·.2) = [assign (.Subscript (.Name x p1) ix p2) X.env] := by rfl) :
    JK X R rk ρ (.Assign [.Subscript (.Name x p1) ix p2] e pos :: rest) κ q (T fun d => Ti fun z m => ∃ n j, z = .int n ∧ ixN ds.length n = some j ∧ k (ds.set j d) m) :=
  PSs.imp (pss_cons (ps_asg he (pg_sub (pe_var (i := i) hN hv hd hcd) hi set_list ha) hs hw h1) (pss_any hr)) fun Dn σ H ⟨Gb, G, m, S, g, t, ls⟩ => by
    obtain ⟨l, vs, e1, gl, nv, en, hl, rv⟩ := S.ownT hρ
    refine ⟨G, m, _, S, t, fun v d G1 H1 m1 S1 g1 r1 q1 => ⟨.ref l, e1, G1, m1, _, S1, q1, fun w z G2 H2 m2 S2 g2 r2 q2 => ?_⟩⟩
    obtain ⟨n, j, rfl, hj, q2⟩ := q2
    cases r2
    have h2 := g2.hh l _ nv (g1.hh l _ nv hl)
    have rv2 := rv.mono (g1.gg.trans g2.gg)
    obtain ⟨S3, gg⟩ := S2.write (vs := vs.set j v) hρ e1 (rv2.set j (r1.mono g2.gg))
    exact ⟨l, vs, n, j, rfl, rfl, h2, by rw [rv.length]; exact hj, _, Gb, G2, m2, S3, gg en (S1.tr (S.tr g g1) g2), q2, ls.sm (g1.gg.trans g2.gg)⟩
end

/-! ### a, b = x, y: data and new lists -/
inductive CsR (R : Res) (G' H' H0 : Hp) : List V → List Cell → Prop
  | nil : CsR R G' H' H0 [] []
  | dat {v : V} {d : D} {vs : List V} {cs : List Cell} : Rp G' v d → CsR R G' H' H0 vs cs → CsR R G' H' H0 (v :: vs) (.dat d :: cs)
  | own {l : Addr} {ws : List V} {ds : List D} {vs : List V} {cs : List Cell} : G' l = none → ¬ R.vol l → R.ent l = none → H' l = some (.lst ws) → RpL G' ws ds → H0 l = none → V.ref l ∉ vs → CsR R G' H' H0 vs cs → CsR R G' H' H0 (.ref l :: vs) (.own ds :: cs)
def tAc (R : Res) (ρ : List Cell) (n : Nat) (T : M (List Cell)) : TA := fun σ H Q => ∃ G m q, Sit R σ ρ G H m ∧ T q m ∧ ∀ vs cs G' H' m', Sit R σ ρ G' H' m' → Grow R.vol G H G' H' → CsR R G' H' H vs cs → cs.length = n → q cs m' → Q vs H'
def JC (X : Cx) (R : Res) (ρ : List Cell) (es : List Expr) (n : Nat) (T : M (List Cell)) : Prop := PA X es (tAc R ρ n T)
section
variable {R : Res} {G H G' H' H0 H1 : Hp}
theorem CsR.noref {vs : List V} {cs : List Cell} (h : CsR R G' H' H0 vs cs) {l : Addr} (gl : G' l = none) (hl : H0 l ≠ none) : V.ref l ∉ vs := by
  induction h with
  | nil => simp
  | dat r _ ih =>
    intro z
    rcases List.mem_cons.mp z with z | z
    · subst z
      cases r with
      | lst h _ => rw [gl] at h; cases h
      | tup h _ => rw [gl] at h; cases h
    · exact ih z
  | own _ _ _ _ _ h0 _ _ ih =>
    intro z
    rcases List.mem_cons.mp z with z | z
    · cases z
      exact hl h0
    · exact ih z
theorem CsR.back {vs : List V} {cs : List Cell} (h : CsR R G' H' H1 vs cs) (f : ∀ p, H1 p = none → H0 p = none) : CsR R G' H' H0 vs cs := by
  induction h with
  | nil => exact .nil
  | dat r _ ih => exact .dat r ih
  | own a b c d e h0 n _ ih => exact .own a b c d e (f _ h0) n ih
theorem CsR.length {vs : List V} {cs : List Cell} (h : CsR R G' H' H0 vs cs) : vs.length = cs.length := by
  induction h with
  | nil => rfl
  | dat _ _ ih => simp [ih]
  | own _ _ _ _ _ _ _ _ ih => simp [ih]
def setS : List Nat → List V → L2.St → L2.St
  | i :: is, v :: vs, σ => setS is vs (σ.set i (some v))
  | _, _, σ => σ
def setR : List Nat → List Cell → List Cell → List Cell
  | i :: is, c :: cs, ρ => setR is cs (ρ.set i c)
  | _, _, ρ => ρ
theorem Sit.setAll {m : Nat} {vs : List V} {cs : List Cell} (h : CsR R G' H' H0 vs cs) : ∀ {is : List Nat} {σ : L2.St} {ρ : List Cell}, Sit R σ ρ G' H' m →
    (∀ (l : Addr) (j : Nat) (es : List D), V.ref l ∈ vs → (G' l = none) → ρ[j]? = some (.own es) → σ[j]? ≠ some (some (.ref l))) → Sit R (setS is vs σ) (setR is cs ρ) G' H' m := by
  induction h with
  | nil => intro is σ ρ S _; cases is <;> exact S
  | @dat v d vs cs r c ih =>
    intro is σ ρ S f
    cases is with
    | nil => exact S
    | cons i is =>
      refine ih (is := is) (S.setD i r) fun l j es hl gl e => ?_
      obtain ⟨n, e⟩ := own_set (c := .dat d) (fun _ z => nomatch z) e
      rw [List.getElem?_set_ne (Ne.symm n)]
      exact f l j es (List.mem_cons_of_mem _ hl) gl e
  | @own l0 ws d vs cs a b en hd r h0 nv c ih =>
    intro is σ ρ S f
    cases is with
    | nil => exact S
    | cons i is =>
      refine ih (is := is) (S.setO i a b en hd r fun j es e => f l0 j es List.mem_cons_self a e) fun l j es hl gl e => ?_
      by_cases hj : i = j
      · subst hj
        by_cases hlt : i < σ.length
        · rw [List.getElem?_set_self hlt]
          intro z
          have z' : l0 = l := by simpa using z
          subst z'
          exact nv hl
        · rw [List.getElem?_eq_none (by simpa using hlt)]
          exact fun z => nomatch z
      · rw [List.getElem?_set_ne hj] at e ⊢
        exact f l j es (List.mem_cons_of_mem _ hl) gl e
end
section
variable {α : Type} {X : Cx} {R : Res} {rk : RK α} {ρ : List Cell} {rest : List Stmt} {κ : Kt} {q : α → Nat → Prop} {e a b c : Expr} {es : List Expr} {pos : Pos} {n : Nat}
theorem jc_nil : JC X R ρ [] 0 (fun q m => q [] m) := PA.imp pa_nil fun _ H _ ⟨G, m, _, S, t, k⟩ => k _ _ G H m S (Grow.refl _ _ _) .nil rfl t
theorem jc_dat {T : M D} {Ts : M (List Cell)} (ha : JM X R ρ e T) (hs : JC X R ρ es n Ts) (hst : starEach (e :: es) X.env = (false, eval e X.env) :: starEach es X.env := by rfl) :
    JC X R ρ (e :: es) (n + 1) (fun q m => T (fun d m1 => Ts (fun cs m2 => q (.dat d :: cs) m2) m1) m) :=
  PA.imp (pa_cons ha hs hst) fun σ H Q ⟨G, m, q, S, t, k⟩ => ⟨G, m, _, S, t, fun v d G1 H1 m1 S1 g1 r1 q1 => ⟨G1, m1, _, S1, q1, fun vs cs G2 H2 m2 S2 g2 c2 l2 q2 =>
    k _ _ G2 H2 m2 S2 (g1.trans S1.vh g2) (.dat (r1.mono g2.gg) (c2.back fun p h => free_of g1 S1.vh h)) (by simp [l2]) q2⟩⟩
theorem jc_own {T : M (List D)} {Ts : M (List Cell)} (ha : JL X R ρ e T) (hs : JC X R ρ es n Ts) (hst : starEach (e :: es) X.env = (false, eval e X.env) :: starEach es X.env := by rfl) :
    JC X R ρ (e :: es) (n + 1) (fun q m => T (fun ds m1 => Ts (fun cs m2 => q (.own ds :: cs) m2) m1) m) :=
  PA.imp (pa_cons ha hs hst) fun σ H Q ⟨G, m, q, S, t, k⟩ => ⟨G, m, _, S, t, fun p ws ds G1 H1 m1 S1 g1 hp gp hp1 r1 q1 => ⟨G1, m1, _, S1, q1, fun vs cs G2 H2 m2 S2 g2 c2 l2 q2 => by
    have nv : ¬ R.vol p := fun v => S.vh p v hp
    have np : H1 p ≠ none := by rw [hp1]; exact fun z => nomatch z
    have gp2 := g2.new p gp np
    exact k _ _ G2 H2 m2 S2 (g1.trans S1.vh g2) (.own gp2 nv (S.en p hp) (g2.hh p _ nv hp1) (r1.mono g2.gg) hp (c2.noref gp2 np) (c2.back fun p h => free_of g1 S1.vh h)) (by simp [l2]) q2⟩⟩
theorem par_read {is : List Nat} {Ts : M (List Cell)} {k : List Cell → Nat → Prop} {rs : List Cell → List Stmt} {Dn : Ends} {σ : L2.St} {H : Hp} {Gb G : Hp} {m : Nat} (S : Sit R σ ρ G H m) (g : Grow R.vol Gb R.ent G H) (t : Ts k m) (ls : Ls R rk Gb G κ q Dn)
    {P : List V → Hp → Prop} (fin : ∀ vs cs G1 H1 m1, cs.length = n → vs.length = n → Sit R (setS is vs σ) (setR is cs ρ) G1 H1 m1 → Grow R.vol Gb R.ent G1 H1 → k cs m1 → Ls R rk Gb G1 κ q Dn → P vs H1) : tAc R ρ n Ts σ H P := by
  refine ⟨G, m, _, S, t, fun vs cs G1 H1 m1 S1 g1 c1 l1 q1 => fin vs cs G1 H1 m1 l1 (c1.length.trans l1) (Sit.setAll c1 S1 fun l j es hl gl e z => ?_) (S.tr g g1) q1 (ls.sm g1.gg)⟩
  obtain ⟨l', ws, e2, _, _, _, hl2, _⟩ := S.ownT e
  rw [z] at e2
  cases e2
  exact c1.noref gl (by rw [hl2]; exact fun z => nomatch z) hl
/-- both names plain locals -/
theorem jk_par {i j : Nat} {x y : Str} {px py pt pt2 : Pos} {kt k2 : Nat} {Ts : M (List Cell)} {k : List Cell → Nat → Prop} {l : Nat} (B : Bx X l) (ha : JC X R ρ [a, b] 2 Ts) (hij : i ≠ j) (hx : X.env.scope.names.lookup x = some .local) (hy : X.env.scope.names.lookup y = some .local)
    (hw : swappedStores [.Tuple [.Name x px, .Name y py] kt pt] (.Tuple [a, b] k2 pt2) X.env = pure (some [x, y])) (hr : ∀ c d, JK X R rk ((ρ.set i c).set j d) rest κ q (k [c, d])) (hi : X.N[i]? = some x := by rfl) (hj : X.N[j]? = some y := by rfl)
    (hs : swapsWithSole [.Tuple [.Name x px, .Name y py] kt pt] (.Tuple [a, b] k2 pt2) pos.line X.env = pure false := by rfl) : JK X R rk ρ (.Assign [.Tuple [.Name x px, .Name y py] kt pt] (.Tuple [a, b] k2 pt2) pos :: rest) κ q (Ts k) :=
  PSs.imp (pss_cons (ps_par B.hc B.nd hi hj hij hx hy ha hw hs) (pss_any fun z : Cell × Cell => hr z.1 z.2)) fun Dn σ H ⟨Gb, G, m, S, g, t, ls⟩ => par_read (is := [i, j]) (rs := fun _ => rest) S g t ls fun vs cs G1 H1 m1 l1 l2 S1 g1 q1 ls1 => by
    match vs, cs, l1, l2, S1, q1 with
    | [v, w], [c, d], _, _, S1, q1 => exact ⟨v, w, rfl, (c, d), Gb, G1, m1, S1, g1, q1, ls1⟩
/-- names of any kind: a tuple is made and taken apart -/
theorem own_tup {m : Nat} {σ : L2.St} {ρ : List Cell} {G H Gb : Hp} {p : Addr} {o : HO} (S : Sit R σ ρ G H m) (g : Grow R.vol Gb R.ent G H) (hp : H p = none) : Sit R σ ρ G (upd H p o) m ∧ Grow R.vol Gb R.ent G (upd H p o) := by
  obtain ⟨g1, s1⟩ := grow_own S.gh hp o
  obtain ⟨S1, g1'⟩ := S.growS g1 s1
  exact ⟨S1, g.trans S.vh g1'⟩
theorem jk_parC {i j : Nat} {x y : Str} {px py pt pt2 : Pos} {kt k2 : Nat} {Ts : M (List Cell)} {k : List Cell → Nat → Prop} {l : Nat} (B : Bx X l) (ha : JC X R ρ [a, b] 2 Ts) (hr : ∀ c d, JK X R rk ((ρ.set i c).set j d) rest κ q (k [c, d])) (hi : X.N[i]? = some x := by rfl) (hj : X.N[j]? = some y := by rfl)
    (hx : Loc X.env.scope x := by first | exact Or.inl rfl | exact Or.inr rfl) (hy : Loc X.env.scope y := by first | exact Or.inl rfl | exact Or.inr rfl) (fx : X.fn x = true ∨ X.env.scope.names.lookup x = some .local := by first | exact .inl rfl | exact .inr rfl) (fy : X.fn y = true ∨ X.env.scope.names.lookup y = some .local := by first | exact .inl rfl | exact .inr rfl)
    (hn : (assignEach [.Name x px, .Name y py] X.env).length = 2 := by rfl) (hst : (assignEach [.Name x px, .Name y py] X.env).findIdx? (·.1) = none := by rfl)
    (h2 : (assignEach [.Name x px, .Name y py] X.env).map (·.2) = assign (.Name x px) X.env :: (assignEach [.Name y py] X.env).map (·.2) := by rfl) (h3 : (assignEach [.Name y py] X.env).map (·.2) = assign (.Name y py) X.env :: (assignEach [] X.env).map (·.2) := by rfl)
    (hs : swapsWithSole [.Tuple [.Name x px, .Name y py] kt pt] (.Tuple [a, b] k2 pt2) pos.line X.env = pure false := by rfl) (hw : swappedStores [.Tuple [.Name x px, .Name y py] kt pt] (.Tuple [a, b] k2 pt2) X.env = pure none := by rfl)
    (h1 : (assignEach [.Tuple [.Name x px, .Name y py] kt pt] X.env).map (·.2) = [assign (.Tuple [.Name x px, .Name y py] kt pt) X.env] := by rfl) : JK X R rk ρ (.Assign [.Tuple [.Name x px, .Name y py] kt pt] (.Tuple [a, b] k2 pt2) pos :: rest) κ q (Ts k) :=
  PSs.imp (pss_cons (ps_asg (pe_tup ha) (pg_tup B.hc (pgs_cons (pg_name (i := i) B.nd hi hx fx) (pgs_cons (pg_name (i := j) B.nd hj hy fy) pgs_nil h3) h2) hn hst) hs hw h1) (pss_any fun z : Cell × Cell => hr z.1 z.2)) fun Dn σ H ⟨Gb, G, m, S, g, t, ls⟩ =>
    par_read (is := [i, j]) (rs := fun _ => rest) S g t ls fun vs cs G1 H1 m1 l1 l2 S1 g1 q1 ls1 => by
      match vs, cs, l1, l2, S1, q1 with
      | [v, w], [c, d], _, _, S1, q1 =>
        refine ⟨(by show 2 ≤ sizeLine; decide), fun p hp => ⟨p, [v, w], rfl, SqT.of upd_same, rfl, v, [w], rfl, w, [], rfl, rfl, (c, d), Gb, G1, m1, ?_⟩⟩
        obtain ⟨S2, g2⟩ := own_tup (o := .tup [v, w]) S1 g1 hp
        exact ⟨S2, g2, q1, ls1⟩
theorem jk_par3 {i j o : Nat} {x y z : Str} {px py pz pt pt2 : Pos} {kt k2 : Nat} {Ts : M (List Cell)} {k : List Cell → Nat → Prop} {l : Nat} (B : Bx X l) (ha : JC X R ρ [a, b, c] 3 Ts) (hij : i ≠ j) (hio : i ≠ o) (hjo : j ≠ o) (hx : X.env.scope.names.lookup x = some .local) (hy : X.env.scope.names.lookup y = some .local) (hz : X.env.scope.names.lookup z = some .local)
    (hw : swappedStores [.Tuple [.Name x px, .Name y py, .Name z pz] kt pt] (.Tuple [a, b, c] k2 pt2) X.env = pure (some [x, y, z])) (hr : ∀ c d e, JK X R rk (((ρ.set i c).set j d).set o e) rest κ q (k [c, d, e])) (hi : X.N[i]? = some x := by rfl) (hj : X.N[j]? = some y := by rfl) (ho : X.N[o]? = some z := by rfl)
    (hs : swapsWithSole [.Tuple [.Name x px, .Name y py, .Name z pz] kt pt] (.Tuple [a, b, c] k2 pt2) pos.line X.env = pure false := by rfl) : JK X R rk ρ (.Assign [.Tuple [.Name x px, .Name y py, .Name z pz] kt pt] (.Tuple [a, b, c] k2 pt2) pos :: rest) κ q (Ts k) :=
  PSs.imp (pss_cons (ps_par3 B.hc B.nd hi hj ho hij hio hjo hx hy hz ha hw hs) (pss_any fun z : Cell × Cell × Cell => hr z.1 z.2.1 z.2.2)) fun Dn σ H ⟨Gb, G, m, S, g, t, ls⟩ => par_read (is := [i, j, o]) (rs := fun _ => rest) S g t ls fun vs cs G1 H1 m1 l1 l2 S1 g1 q1 ls1 => by
    match vs, cs, l1, l2, S1, q1 with
    | [v, w, u], [c, d, e], _, _, S1, q1 => exact ⟨v, w, u, rfl, (c, d, e), Gb, G1, m1, S1, g1, q1, ls1⟩
theorem jk_parC3 {i j o : Nat} {x y z : Str} {px py pz pt pt2 : Pos} {kt k2 : Nat} {Ts : M (List Cell)} {k : List Cell → Nat → Prop} {l : Nat} (B : Bx X l) (ha : JC X R ρ [a, b, c] 3 Ts) (hr : ∀ c d e, JK X R rk (((ρ.set i c).set j d).set o e) rest κ q (k [c, d, e])) (hi : X.N[i]? = some x := by rfl) (hj : X.N[j]? = some y := by rfl) (ho : X.N[o]? = some z := by rfl)
    (hx : Loc X.env.scope x := by first | exact Or.inl rfl | exact Or.inr rfl) (hy : Loc X.env.scope y := by first | exact Or.inl rfl | exact Or.inr rfl) (hz : Loc X.env.scope z := by first | exact Or.inl rfl | exact Or.inr rfl)
    (fx : X.fn x = true ∨ X.env.scope.names.lookup x = some .local := by first | exact .inl rfl | exact .inr rfl) (fy : X.fn y = true ∨ X.env.scope.names.lookup y = some .local := by first | exact .inl rfl | exact .inr rfl) (fz : X.fn z = true ∨ X.env.scope.names.lookup z = some .local := by first | exact .inl rfl | exact .inr rfl)
    (hn : (assignEach [.Name x px, .Name y py, .Name z pz] X.env).length = 3 := by rfl) (hst : (assignEach [.Name x px, .Name y py, .Name z pz] X.env).findIdx? (·.1) = none := by rfl)
    (h2 : (assignEach [.Name x px, .Name y py, .Name z pz] X.env).map (·.2) = assign (.Name x px) X.env :: (assignEach [.Name y py, .Name z pz] X.env).map (·.2) := by rfl) (h3 : (assignEach [.Name y py, .Name z pz] X.env).map (·.2) = assign (.Name y py) X.env :: (assignEach [.Name z pz] X.env).map (·.2) := by rfl)
    (h4 : (assignEach [.Name z pz] X.env).map (·.2) = assign (.Name z pz) X.env :: (assignEach [] X.env).map (·.2) := by rfl)
    (hs : swapsWithSole [.Tuple [.Name x px, .Name y py, .Name z pz] kt pt] (.Tuple [a, b, c] k2 pt2) pos.line X.env = pure false := by rfl) (hw : swappedStores [.Tuple [.Name x px, .Name y py, .Name z pz] kt pt] (.Tuple [a, b, c] k2 pt2) X.env = pure none := by rfl)
    (h1 : (assignEach [.Tuple [.Name x px, .Name y py, .Name z pz] kt pt] X.env).map (·.2) = [assign (.Tuple [.Name x px, .Name y py, .Name z pz] kt pt) X.env] := by rfl) : JK X R rk ρ (.Assign [.Tuple [.Name x px, .Name y py, .Name z pz] kt pt] (.Tuple [a, b, c] k2 pt2) pos :: rest) κ q (Ts k) :=
  PSs.imp (pss_cons (ps_asg (pe_tup ha) (pg_tup B.hc (pgs_cons (pg_name (i := i) B.nd hi hx fx) (pgs_cons (pg_name (i := j) B.nd hj hy fy) (pgs_cons (pg_name (i := o) B.nd ho hz fz) pgs_nil h4) h3) h2) hn hst) hs hw h1) (pss_any fun z : Cell × Cell × Cell => hr z.1 z.2.1 z.2.2)) fun Dn σ H ⟨Gb, G, m, S, g, t, ls⟩ =>
    par_read (is := [i, j, o]) (rs := fun _ => rest) S g t ls fun vs cs G1 H1 m1 l1 l2 S1 g1 q1 ls1 => by
      match vs, cs, l1, l2, S1, q1 with
      | [v, w, u], [c, d, e], _, _, S1, q1 =>
        refine ⟨(by show 3 ≤ sizeLine; decide), fun p hp => ⟨p, [v, w, u], rfl, SqT.of upd_same, rfl, v, [w, u], rfl, w, [u], rfl, u, [], rfl, rfl, (c, d, e), Gb, G1, m1, ?_⟩⟩
        obtain ⟨S2, g2⟩ := own_tup (o := .tup [v, w, u]) S1 g1 hp
        exact ⟨S2, g2, q1, ls1⟩
end

/-! ### a def by its body -/
def startC (N : List Str) (ds : List D) : List Cell := ds.map Cell.dat ++ List.replicate (N.length - ds.length) Cell.no
theorem sit_start {N : List Str} {vs : List V} {ds : List D} {G H : Hp} (gh : Same G H) (r : RpL G vs ds) : Sit (Res.pure H) (L2.start N vs) (startC N ds) G H 0 := by
  have hl := r.length
  refine ⟨⟨gh, fun a v => v.elim, fun a v => v.elim, trivial, trivial, fun p h => h⟩, by simp [L2.start, startC, hl], fun i c e => ?_, fun i j es fs l e1 _ _ _ => ?_⟩
  · unfold startC at e
    by_cases hi : i < ds.length
    · rw [List.getElem?_append_left (by simpa using hi), List.getElem?_map, List.getElem?_eq_getElem hi] at e
      cases e
      obtain ⟨v, hv, rv⟩ := r.get (List.getElem?_eq_getElem hi)
      refine ⟨v, ?_, rv⟩
      unfold L2.start
      rw [List.getElem?_append_left (by simp; omega), List.getElem?_map, hv]
      rfl
    · rw [List.getElem?_append_right (by simpa using hi), List.getElem?_replicate] at e
      split at e
      · cases e; trivial
      · cases e
  · unfold startC at e1
    by_cases hi : i < ds.length
    · rw [List.getElem?_append_left (by simpa using hi), List.getElem?_map, List.getElem?_eq_getElem hi] at e1
      cases e1
    · rw [List.getElem?_append_right (by simpa using hi), List.getElem?_replicate] at e1
      split at e1 <;> cases e1
/-- what falls off the end: None, where the answer may be a datum -/
class Falls {α : Type} (rk : RK α) where
  nx : (α → Nat → Prop) → List Cell → (Nat → Prop) → Prop
  ok : ∀ {R : Res} {Gb : Hp} {q : α → Nat → Prop} {P : VK} {ρ' : List Cell} {b : Nat → Prop} {σ' : L2.St} {G' H' : Hp} {m' : Nat}, Rt R rk Gb q P → nx q ρ' b → b m' → Sit R σ' ρ' G' H' m' → Grow R.vol Gb R.ent G' H' → P .non H'
instance : Falls RK.dat := ⟨fun q _ b => ∀ m, b m → q .none m, fun rt h hb S g => rt _ _ _ _ _ S.toSat g .non (h _ hb)⟩
instance : Falls RK.lst := ⟨fun _ _ _ => False, fun _ h _ _ _ => h.elim⟩
def KtF {α : Type} (rk : RK α) [Falls rk] (q : α → Nat → Prop) : Kt := ⟨Falls.nx rk q, fun _ _ => False, fun _ _ => False⟩
section
variable {α : Type} {P : Program} {w : World} {K : PySem.W.Frag} {mg : Str → Option Value} {base : Heap}
/-- the context of a def's body -/
abbrev cxG (P : Program) (w : World) (K : PySem.W.Frag) (mg : Str → Option Value) (base : Heap) (N : List Str) (x : Str) (st : Stmt) (f : Addr) (cdv : Value) (A : Around) (outer : List Env) (s : Shared) (H : Hp) (E : XK) : Cx := (cxOf CX0 P w K mg base N x (defScope st) f cdv A outer s H E).nox
theorem kn_pure {rk : RK α} [Falls rk] {F : List D → Option α} {x : Str} {st : Stmt} {f : Addr} {fd : FuncData} {N ps : List Str} {k n : Nat} (Fn : Fun K x x st f fd) (mx : mg x = some (.ref f)) (bs : Binds K fd ps []) (Sc : FnScope N ps (defScope st)) (hn : ps.length = n)
    (body : ∀ (cdv : Value) (A : Around) (outer : List Env) (s : Shared) (H : Hp) (E : XK), Bx (cxG P w K mg base N x st f cdv A outer s H E) k → ∀ ds : List D, ds.length = n → ∀ a : α,
      JK (cxG P w K mg base N x st f cdv A outer s H E) (Res.pure H) rk (startC N ds) (defBody st) (KtF rk fun a' _ => a' = a) (fun a' _ => a' = a) (fun _ => F ds = some a)) : Kn P w K mg base x (k + 1) (spR rk n F) := by
  refine ⟨f, fd, ps, fn_g Fn Sc (fun vs H Q E h => ?_) (fun cdv A outer s H vs Q E hg hr h => ?_), mx, Fn.kp, bs⟩
  · obtain ⟨G, ds, a, _, r, l, _⟩ := h
    rw [r.length, l, hn]
  · obtain ⟨G, ds, a, gh, r, l, hF, k⟩ := h
    have B : Bx (cxG P w K mg base N x st f cdv A outer s H E) _ := ⟨hr, hg, rfl, Sc.nd, PassesOwn.never⟩
    refine ⟨_, (body cdv A outer s H E B ds l a).nox, G, G, 0, sit_start gh r, Grow.refl _ _ _, hF, ?_, ?_, ?_, ?_⟩
    · rintro v a' G' H' m' S' g' rr rfl
      exact k v G' H' g' S'.gh rr
    · intro ρ' b σ' G' H' m' h hb S' g' _
      exact Falls.ok (R := Res.pure H) (Gb := G) (q := fun a' _ => a' = a) (P := Q) (fun v a' G' H' m' S' g' rr e => by subst e; exact k v G' H' g' S'.gh rr) h hb S' g'
    · intro _ _ _ _ _ _ h; exact h.elim
    · intro _ _ _ _ _ _ h; exact h.elim
/-- where nothing is claimed -/
theorem kn_none {rk : RK α} {F : List D → Option α} {x : Str} {st : Stmt} {f : Addr} {fd : FuncData} {ps : List Str} {k n : Nat} (Fn : Fun K x x st f fd) (mx : mg x = some (.ref f)) (bs : Binds K fd ps []) (h : ∀ ds, F ds = none) : Kn P w K mg base x k (spR rk n F) := by
  have no : ∀ vs H Q E, ¬ spR rk n F vs H Q E := fun vs H Q E ⟨_, ds, _, _, _, _, e, _⟩ => by rw [h] at e; cases e
  exact ⟨f, fd, ps, ⟨fun vs H Q E z => (no vs H Q E z).elim, fun _ _ _ H _ _ vs Q E _ _ _ _ _ z => (no vs H Q E z).elim⟩, mx, Fn.kp, bs⟩
end
end Dl

set_option Elab.async false
set_option linter.all false
set_option autoImplicit false
set_option maxRecDepth 100000
set_option maxHeartbeats 1000000
namespace Dl
open PySem L2

/-! ### pure code: its answer an Option -/
structure KtE (α : Type) where
  nx : List Cell → Option α → Prop
  bk : List Cell → Option α → Prop
  ct : List Cell → Option α → Prop
def KtE.at {α : Type} (κ : KtE α) (a : α) : Kt := ⟨fun ρ b => ∃ o, κ.nx ρ o ∧ ∀ m, b m → o = some a, fun ρ b => ∃ o, κ.bk ρ o ∧ ∀ m, b m → o = some a, fun ρ b => ∃ o, κ.ct ρ o ∧ ∀ m, b m → o = some a⟩
def JKE {α : Type} (X : Cx) (R : Res) (rk : RK α) (ρ : List Cell) (st : List Stmt) (κ : KtE α) (o : Option α) : Prop := ∀ a, JK X R rk ρ st (κ.at a) (fun a' _ => a' = a) (fun _ => o = some a)
def forO {S α : Type} (body : S → D → (S → Option α) → Option α) : List D → S → (S → Option α) → Option α
  | [], s, k => k s
  | d :: ds, s, k => body s d fun s' => forO body ds s' k
def whileO {S α : Type} (c : S → Option Bool) (body : S → (S → Option α) → Option α) : Nat → S → (S → Option α) → Option α
  | 0, _, _ => none
  | n + 1, s, k => (c s).bind fun t => if t = true then body s (fun s' => whileO c body n s' k) else k s
def KtLE {S α : Type} (env : S → List Cell) (kk : S → Option α) (bk : List Cell → Option α → Prop) : KtE α :=
  ⟨fun ρ' o => ∃ s', Wk ρ' (env s') ∧ o = kk s', bk, fun ρ' o => ∃ s', Wk ρ' (env s') ∧ o = kk s'⟩
section
variable {α S : Type} {X : Cx} {R : Res} {rk : RK α} {ρ : List Cell} {st : Stmt} {rest body A B' : List Stmt} {κ : KtE α} {e c tg iter : Expr} {pos : Pos}
theorem jk_ex {ι : Type} {κ' : Kt} {q : α → Nat → Prop} {sts : List Stmt} {a : ι → Nat → Prop} (h : ∀ i, JK X R rk ρ sts κ' q (a i)) : JK X R rk ρ sts κ' q (fun m => ∃ i, a i m) :=
  ⟨fun pins s σ H Dn I ⟨Gb, G, m, S, g, ⟨i, t⟩, ls⟩ => (h i).run pins s σ H Dn I ⟨Gb, G, m, S, g, t, ls⟩⟩
theorem JKE.eq {sts : List Stmt} {o o' : Option α} (h : JKE X R rk ρ sts κ o) (k : o = o') : JKE X R rk ρ sts κ o' := by rw [← k]; exact h
theorem jke_nil {o : Option α} (h : κ.nx ρ o) : JKE X R rk ρ [] κ o := fun a => jk_nil ⟨o, h, fun _ z => z⟩
theorem jke_pass {o : Option α} (hr : JKE X R rk ρ rest κ o) : JKE X R rk ρ (.Pass pos :: rest) κ o := fun a => jk_pass (hr a)
theorem jke_break {o : Option α} (h : κ.bk ρ o) : JKE X R rk ρ (.Break pos :: rest) κ o := fun a => jk_break ⟨o, h, fun _ z => z⟩
theorem jke_cont {o : Option α} (h : κ.ct ρ o) : JKE X R rk ρ (.Continue pos :: rest) κ o := fun a => jk_cont ⟨o, h, fun _ z => z⟩
theorem bind_lift {β : Type} {oe : Option β} {k : β → Option α} {a : α} {m : Nat} (h : oe.bind k = some a) : lift oe (fun d _ => k d = some a) m := by
  obtain ⟨d, h1, h2⟩ := Option.bind_eq_some_iff.mp h
  exact ⟨d, h1, h2⟩
theorem jke_st {oe : Option D} {i : Nat} {k : D → Option α} (hs : PS X st (tAsg (tJ R ρ (lift oe)) (gName i))) (hr : ∀ d, JKE X R rk (ρ.set i (.dat d)) rest κ (k d)) : JKE X R rk ρ (st :: rest) κ (oe.bind k) := fun a =>
  (jk_st hs (fun d => hr d a)).imp fun _ h => bind_lift h
theorem jke_stL {oe : Option (List D)} {i : Nat} {k : List D → Option α} (hs : PS X st (tAsg (tL R ρ (lift oe)) (gName i))) (hr : ∀ d, JKE X R rk (ρ.set i (.own d)) rest κ (k d)) : JKE X R rk ρ (st :: rest) κ (oe.bind k) := fun a =>
  (jk_stL hs (fun d => hr d a)).imp fun _ h => bind_lift h
theorem PS.tj {T T' : M D} {i : Nat} (hs : PS X st (tAsg (tJ R ρ T) (gName i))) (k : ∀ q m, T' q m → T q m) : PS X st (tAsg (tJ R ρ T') (gName i)) := PS.imp hs fun _ _ _ ⟨G, m, q, S, t, c⟩ => ⟨G, m, q, S, k q m t, c⟩
theorem PS.tl {T T' : M (List D)} {i : Nat} (hs : PS X st (tAsg (tL R ρ T) (gName i))) (k : ∀ q m, T' q m → T q m) : PS X st (tAsg (tL R ρ T') (gName i)) := PS.imp hs fun _ _ _ ⟨G, m, q, S, t, c⟩ => ⟨G, m, q, S, k q m t, c⟩
/-- a new list that all may know -/
theorem ste_shr {oe : Option (List D)} {i : Nat} (h : PS X st (tAsg (tL R ρ (lift oe)) (gName i))) : PS X st (tAsg (tJ R ρ (lift (oe.map PyData.list))) (gName i)) := PS.tj (st_shr h) fun q m ⟨z, h1, h2⟩ => by
  obtain ⟨ds, h3, rfl⟩ := Option.map_eq_some_iff.mp h1
  exact ⟨ds, h3, h2⟩
theorem ste_lend {oe : Option (List D)} {i : Nat} (h : PS X st (tAsg (tL R (brw ρ) (lift oe)) (gName i))) : PS X st (tAsg (tL R ρ (lift (immLO oe))) (gName i)) := PS.tl (st_lend h) fun q m t => by
  obtain ⟨d, h1, h2⟩ := lift1 t
  by_cases z : immL d = true
  · rw [if_pos z] at h2
    exact ⟨d, h1, z, lift_some' h2⟩
  · rw [if_neg z] at h2
    obtain ⟨_, e, _⟩ := h2; cases e
theorem jke_ret {o : Option D} {κ : KtE D} (he : JE X R ρ e o) : JKE X R .dat ρ (.Return (some e) pos :: rest) κ o := fun a => (jk_ret he).imp fun _ h => ⟨a, h, rfl⟩
theorem jke_retN {κ : KtE D} : JKE X R .dat ρ (.Return none pos :: rest) κ (some .none) := fun a => jk_retN.imp fun _ h => Option.some.inj h
theorem jke_retL {o : Option (List D)} {κ : KtE (List D)} (he : JLE X R ρ e o) : JKE X R .lst ρ (.Return (some e) pos :: rest) κ o := fun a => (jk_retL he).imp fun _ h => ⟨a, h, rfl⟩
theorem jke_retO (i : Nat) {x : Str} {ds : List D} {px : Pos} {κ : KtE (List D)} (hρ : ρ[i]? = some (.own ds) := by rfl) (hN : X.N[i]? = some x := by rfl) (hv : Vis X.env.scope x := by first | exact Or.inl rfl | exact Or.inr (Or.inl rfl) | exact Or.inr (Or.inr rfl)) (hd : (x == ("__debug__" : Str)) = false := by decide)
    (hcd : (x == ("__classdict__" : Str)) = false := by decide) : JKE X R .lst ρ (.Return (some (.Name x px)) pos :: rest) κ (some ds) := fun a => (jk_retO i hρ hN hv hd hcd).imp fun _ h => Option.some.inj h
def KtIE (X : Cx) (R : Res) (rk : RK α) (rest : List Stmt) (κ : KtE α) : KtE α := ⟨fun ρ' o => JKE X R rk ρ' rest κ o, κ.bk, κ.ct⟩
theorem at_nx {a : α} (ρ' : List Cell) (b : Nat → Prop) (h : ∃ o, JKE X R rk ρ' rest κ o ∧ ∀ m, b m → o = some a) : JK X R rk ρ' rest (κ.at a) (fun a' _ => a' = a) b := by
  obtain ⟨o, h1, h2⟩ := h
  exact (h1 a).imp h2
theorem jke_if {oc : Option Bool} {oA oB : Option α} (hc : JTE X R ρ c oc) (hA : JKE X R rk ρ A (KtIE X R rk rest κ) oA) (hB : JKE X R rk ρ B' (KtIE X R rk rest κ) oB) : JKE X R rk ρ (.If c A B' pos :: rest) κ (ifO oc oA oB) := fun a =>
  (jk_if hc ((hA a).kmono at_nx (fun _ _ h => h) fun _ _ h => h) ((hB a).kmono at_nx (fun _ _ h => h) fun _ _ h => h)).imp fun _ h => by
    obtain ⟨t, h1, h2⟩ := Option.bind_eq_some_iff.mp h
    refine ⟨t, h1, ?_⟩
    cases t <;> exact h2
theorem jke_expr {oe : Option D} {o : Option α} (he : JE X R ρ e oe) (hr : JKE X R rk ρ rest κ o) (hs : swapsWith e none pos.line X.env = pure false := by rfl) : JKE X R rk ρ (.Expr e pos :: rest) κ (oe.bind fun _ => o) := fun a =>
  (jk_expr he (hr a) hs).imp fun _ h => bind_lift (k := fun _ => o) h
theorem jke_un2 {oe : Option D} {i j : Nat} {k : D → D → Option α} (he : JE X R ρ e oe) (hg : JG X R tg [i, j] (bdT [i, j])) (hr : ∀ a b, JKE X R rk ((ρ.set i (.dat a)).set j (.dat b)) rest κ (k a b))
    (hs : swapsWithSole [tg] e pos.line X.env = pure false := by rfl) (hw : swappedStores [tg] e X.env = pure none := by rfl) (h1 : (assignEach [tg] X.env).map (·.2) = [assign tg X.env] := by rfl) : JKE X R rk ρ (.Assign [tg] e pos :: rest) κ (oe.bind fun d => un2 d k) := fun a =>
  (jk_un2 he hg (fun x y => hr x y a) hs hw h1).imp fun _ h => by
    obtain ⟨d, h1, h2⟩ := Option.bind_eq_some_iff.mp h
    refine ⟨d, h1, ?_⟩
    match d, h2 with
    | .tuple [x, y], h2 => exact h2
theorem jke_un3 {oe : Option D} {i j l : Nat} {k : D → D → D → Option α} (he : JE X R ρ e oe) (hg : JG X R tg [i, j, l] (bdT [i, j, l])) (hr : ∀ a b c, JKE X R rk (((ρ.set i (.dat a)).set j (.dat b)).set l (.dat c)) rest κ (k a b c))
    (hs : swapsWithSole [tg] e pos.line X.env = pure false := by rfl) (hw : swappedStores [tg] e X.env = pure none := by rfl) (h1 : (assignEach [tg] X.env).map (·.2) = [assign tg X.env] := by rfl) : JKE X R rk ρ (.Assign [tg] e pos :: rest) κ (oe.bind fun d => un3 d k) := fun a =>
  (jk_un3 he hg (fun x y z => hr x y z a) hs hw h1).imp fun _ h => by
    obtain ⟨d, h1, h2⟩ := Option.bind_eq_some_iff.mp h
    refine ⟨d, h1, ?_⟩
    match d, h2 with
    | .tuple [x, y, z], h2 => exact h2
def augI (d : D) (oe : Option D) (k : D → Option α) : Option α := oe.bind fun y => match d, y with
  | .int a, .int b => k (.int (a + b))
  | _, _ => none
theorem jke_augI {oe : Option D} {i : Nat} {x : Str} {p' : Pos} {d : D} {k : D → Option α} (he : JE X R ρ e oe) (hr : ∀ d, JKE X R rk (ρ.set i (.dat d)) rest κ (k d)) (hN : X.N.Nodup) (hρ : ρ[i]? = some (.dat d) := by rfl) (hi : X.N[i]? = some x := by rfl) (hx : Loc X.env.scope x := by first | exact Or.inl rfl | exact Or.inr rfl)
    (hf : X.fn x = true ∨ X.env.scope.names.lookup x = some .local := by first | exact .inl rfl | exact .inr rfl) : JKE X R rk ρ (.AugAssign (.Name x p') .Add e pos :: rest) κ (augI d oe k) := fun a =>
  (jk_augI he (fun d => hr d a) hN hρ hi hx hf).imp fun _ h => by
    obtain ⟨y, h1, h2⟩ := Option.bind_eq_some_iff.mp h
    refine ⟨y, h1, ?_⟩
    match d, y, h2 with
    | .int a, .int b, h2 => exact ⟨a, b, rfl, rfl, h2⟩
def augL (ds : List D) (oe : Option (List D)) (k : List D → Option α) : Option α := oe.bind fun es => if ds.length + es.length ≤ sizeLine then k (ds ++ es) else none
theorem jke_augL {oe : Option (List D)} {i : Nat} {x : Str} {p' : Pos} {ds : List D} {k : List D → Option α} (he : JLE X R ρ e oe) (hr : ∀ ds, JKE X R rk (ρ.set i (.own ds)) rest κ (k ds)) (hN : X.N.Nodup) (hρ : ρ[i]? = some (.own ds) := by rfl) (hi : X.N[i]? = some x := by rfl) (hx : Loc X.env.scope x := by first | exact Or.inl rfl | exact Or.inr rfl)
    (hf : X.fn x = true ∨ X.env.scope.names.lookup x = some .local := by first | exact .inl rfl | exact .inr rfl) : JKE X R rk ρ (.AugAssign (.Name x p') .Add e pos :: rest) κ (augL ds oe k) := fun a =>
  (jk_augL he (fun d => hr d a) hN hρ hi hx hf).imp fun _ h => by
    obtain ⟨y, h1, h2⟩ := Option.bind_eq_some_iff.mp h
    by_cases z : ds.length + y.length ≤ sizeLine
    · rw [if_pos z] at h2
      exact ⟨y, h1, z, h2⟩
    · rw [if_neg z] at h2; cases h2
def appO (ds : List D) (oe : Option D) (k : List D → Option α) : Option α := oe.bind fun d => if ds.length < sizeLine then k (ds ++ [d]) else none
theorem jke_app {oe : Option D} (i : Nat) {x : Str} {ds : List D} {p1 p2 p3 : Pos} {k : List D → Option α} (he : JE X R ρ e oe) (hr : ∀ ds, JKE X R rk (ρ.set i (.own ds)) rest κ (k ds)) (hρ : ρ[i]? = some (.own ds) := by rfl) (hN : X.N[i]? = some x := by rfl)
    (hv : Vis X.env.scope x := by first | exact Or.inl rfl | exact Or.inr (Or.inl rfl) | exact Or.inr (Or.inr rfl)) (hd : (x == ("__debug__" : Str)) = false := by decide) (hcd : (x == ("__classdict__" : Str)) = false := by decide)
    (hs : swapsWith (.Call (.Attribute (.Name x p1) "append" p2) [e] [] p3) none pos.line X.env = pure false := by rfl) (hbase : attributeBase (.Name x p1) "append" X.env (eval (.Name x p1) X.env) = eval (.Name x p1) X.env := by rfl)
    (hfew : ((backTo p3 (starEach (e :: []) X.env)).all (fun x => !x.1) && (backToKw p3 (keywordEach [] X.env)).all (fun x => x.1.isSome) && decide ((e :: ([] : List Expr)).length + ([] : List Keyword).length + (if ([] : List Keyword).isEmpty then 0 else 1) < 30)) = true := by rfl)
    (hline : (p2.endLine == p3.line) = true := by rfl) (hst : starEach (e :: []) X.env = (false, eval e X.env) :: starEach [] X.env := by rfl) (hpl : (backTo p3 (starEach [] X.env)).any (·.1) = false := by rfl) :
    JKE X R rk ρ (.Expr (.Call (.Attribute (.Name x p1) "append" p2) [e] [] p3) pos :: rest) κ (appO ds oe k) := fun a =>
  (jk_app i he (fun d => hr _ a) hρ hN hv hd hcd hs hbase hfew hline hst hpl).imp fun _ h => by
    obtain ⟨d, h1, h2⟩ := Option.bind_eq_some_iff.mp h
    by_cases z : ds.length < sizeLine
    · rw [if_pos z] at h2
      exact ⟨d, h1, z, h2⟩
    · rw [if_neg z] at h2; cases h2
def setIO (ds : List D) (oe oi : Option D) (k : List D → Option α) : Option α := oe.bind fun d => oi.bind fun z => match z with
  | .int n => (ixN ds.length n).bind fun j => k (ds.set j d)
  | _ => none
theorem jke_setI {oe oi : Option D} {ix : Expr} (i : Nat) {x : Str} {ds : List D} {p1 p2 : Pos} {k : List D → Option α} (he : JE X R ρ e oe) (hi : JE X R ρ ix oi) (hr : ∀ ds, JKE X R rk (ρ.set i (.own ds)) rest κ (k ds)) (hρ : ρ[i]? = some (.own ds) := by rfl) (hN : X.N[i]? = some x := by rfl)
    (hv : Vis X.env.scope x := by first | exact Or.inl rfl | exact Or.inr (Or.inl rfl) | exact Or.inr (Or.inr rfl)) (hd : (x == ("__debug__" : Str)) = false := by decide) (hcd : (x == ("__classdict__" : Str)) = false := by decide)
    (ha : ∀ v, assign (.Subscript (.Name x p1) ix p2) X.env v = (do
      let ov ← holding [v] (eval (.Name x p1) X.env)
      let iv ← holding [v, ov] (eval ix X.env)
      standAt p2
      holding [v, ov, iv] (setItem ov iv v)
      release [v, ov, iv] []) := by intro _; rfl)
    (hs : swapsWithSole [.Subscript (.Name x p1) ix p2] e pos.line X.env = pure false := by rfl) (hw : swappedStores [.Subscript (.Name x p1) ix p2] e X.env = pure none := by rfl) (h1 : (assignEach [.Subscript (.Name x p1) ix p2] X.env).map (·.2) = [assign (.Subscript (.Name x p1) ix p2) X.env] := by rfl) :
    JKE X R rk ρ (.Assign [.Subscript (.Name x p1) ix p2] e pos :: rest) κ (setIO ds oe oi k) := fun a =>
  (jk_setI i he hi (fun d => hr d a) hρ hN hv hd hcd ha hs hw h1).imp fun _ h => by
    obtain ⟨d, h1, h2⟩ := Option.bind_eq_some_iff.mp h
    obtain ⟨z, h3, h4⟩ := Option.bind_eq_some_iff.mp h2
    refine ⟨d, h1, z, h3, ?_⟩
    match z, h4 with
    | .int n, h4 =>
      obtain ⟨j, h5, h6⟩ := Option.bind_eq_some_iff.mp h4
      exact ⟨n, j, rfl, h5, h6⟩
/-- a, b = x, y -/
abbrev JCE (X : Cx) (R : Res) (ρ : List Cell) (es : List Expr) (n : Nat) (o : Option (List Cell)) : Prop := JC X R ρ es n (lift o)
theorem jce_nil : JCE X R ρ [] 0 (some []) := PA.imp jc_nil fun _ _ _ ⟨G, m, q, S, t, c⟩ => ⟨G, m, q, S, lift_some' t, c⟩
theorem JC.imp {es : List Expr} {n : Nat} {T T' : M (List Cell)} (h : JC X R ρ es n T) (k : ∀ q m, T' q m → T q m) : JC X R ρ es n T' := PA.imp h fun _ _ _ ⟨G, m, q, S, t, c⟩ => ⟨G, m, q, S, k q m t, c⟩
def consD (oa : Option D) (os : Option (List Cell)) : Option (List Cell) := oa.bind fun d => os.bind fun cs => some (.dat d :: cs)
def consL (oa : Option (List D)) (os : Option (List Cell)) : Option (List Cell) := oa.bind fun d => os.bind fun cs => some (.own d :: cs)
theorem jce_dat {es : List Expr} {n : Nat} {oa : Option D} {os : Option (List Cell)} (ha : JE X R ρ e oa) (hs : JCE X R ρ es n os) (hst : starEach (e :: es) X.env = (false, eval e X.env) :: starEach es X.env := by rfl) : JCE X R ρ (e :: es) (n + 1) (consD oa os) :=
  (jc_dat ha hs hst).imp fun q m h => by
    obtain ⟨x, h1, h2⟩ := lift1 h
    obtain ⟨xs, h3, h4⟩ := lift1 h2
    exact ⟨x, h1, xs, h3, lift_some' h4⟩
theorem jce_own {es : List Expr} {n : Nat} {oa : Option (List D)} {os : Option (List Cell)} (ha : JLE X R ρ e oa) (hs : JCE X R ρ es n os) (hst : starEach (e :: es) X.env = (false, eval e X.env) :: starEach es X.env := by rfl) : JCE X R ρ (e :: es) (n + 1) (consL oa os) :=
  (jc_own ha hs hst).imp fun q m h => by
    obtain ⟨x, h1, h2⟩ := lift1 h
    obtain ⟨xs, h3, h4⟩ := lift1 h2
    exact ⟨x, h1, xs, h3, lift_some' h4⟩
/-- a cell by its kind -/
def onD (k : D → Option α) : Cell → Option α
  | .dat d => k d
  | _ => none
def onL (k : List D → Option α) : Cell → Option α
  | .own d => k d
  | _ => none
def cel2 (k : Cell → Cell → Option α) : List Cell → Option α
  | [c, d] => k c d
  | _ => none
def cel3 (k : Cell → Cell → Cell → Option α) : List Cell → Option α
  | [c, d, e] => k c d e
  | _ => none
theorem jke_onD {c : Cell} {k : D → Option α} {sts : List Stmt} {f : Cell → List Cell} (h : ∀ d, JKE X R rk (f (.dat d)) sts κ (k d)) : JKE X R rk (f c) sts κ (onD k c) := by
  cases c with
  | dat d => exact h d
  | _ => intro a; exact ⟨fun _ _ _ _ _ _ ⟨_, _, _, _, _, t, _⟩ => nomatch t⟩
theorem jke_onL {c : Cell} {k : List D → Option α} {sts : List Stmt} {f : Cell → List Cell} (h : ∀ d, JKE X R rk (f (.own d)) sts κ (k d)) : JKE X R rk (f c) sts κ (onL k c) := by
  cases c with
  | own d => exact h d
  | _ => intro a; exact ⟨fun _ _ _ _ _ _ ⟨_, _, _, _, _, t, _⟩ => nomatch t⟩
variable {a b c' : Expr}
theorem jke_par {i j : Nat} {x y : Str} {px py pt pt2 : Pos} {kt k2 : Nat} {os : Option (List Cell)} {k : Cell → Cell → Option α} {l : Nat} (B : Bx X l) (ha : JCE X R ρ [a, b] 2 os) (hr : ∀ c d, JKE X R rk ((ρ.set i c).set j d) rest κ (k c d)) (hij : i ≠ j := by decide) (hx : X.env.scope.names.lookup x = some .local := by rfl) (hy : X.env.scope.names.lookup y = some .local := by rfl)
    (hw : swappedStores [.Tuple [.Name x px, .Name y py] kt pt] (.Tuple [a, b] k2 pt2) X.env = pure (some [x, y]) := by rfl) (hi : X.N[i]? = some x := by rfl) (hj : X.N[j]? = some y := by rfl)
    (hs : swapsWithSole [.Tuple [.Name x px, .Name y py] kt pt] (.Tuple [a, b] k2 pt2) pos.line X.env = pure false := by rfl) : JKE X R rk ρ (.Assign [.Tuple [.Name x px, .Name y py] kt pt] (.Tuple [a, b] k2 pt2) pos :: rest) κ (os.bind (cel2 k)) := fun v =>
  (jk_par (k := fun cs _ => cel2 k cs = some v) B ha hij hx hy hw (fun c d => hr c d v) hi hj hs).imp fun _ h => bind_lift h
theorem jke_parC {i j : Nat} {x y : Str} {px py pt pt2 : Pos} {kt k2 : Nat} {os : Option (List Cell)} {k : Cell → Cell → Option α} {l : Nat} (B : Bx X l) (ha : JCE X R ρ [a, b] 2 os) (hr : ∀ c d, JKE X R rk ((ρ.set i c).set j d) rest κ (k c d)) (hi : X.N[i]? = some x := by rfl) (hj : X.N[j]? = some y := by rfl)
    (hx : Loc X.env.scope x := by first | exact Or.inl rfl | exact Or.inr rfl) (hy : Loc X.env.scope y := by first | exact Or.inl rfl | exact Or.inr rfl) (fx : X.fn x = true ∨ X.env.scope.names.lookup x = some .local := by first | exact .inl rfl | exact .inr rfl) (fy : X.fn y = true ∨ X.env.scope.names.lookup y = some .local := by first | exact .inl rfl | exact .inr rfl)
    (hn : (assignEach [.Name x px, .Name y py] X.env).length = 2 := by rfl) (hst : (assignEach [.Name x px, .Name y py] X.env).findIdx? (·.1) = none := by rfl)
    (h2 : (assignEach [.Name x px, .Name y py] X.env).map (·.2) = assign (.Name x px) X.env :: (assignEach [.Name y py] X.env).map (·.2) := by rfl) (h3 : (assignEach [.Name y py] X.env).map (·.2) = assign (.Name y py) X.env :: (assignEach [] X.env).map (·.2) := by rfl)
    (hs : swapsWithSole [.Tuple [.Name x px, .Name y py] kt pt] (.Tuple [a, b] k2 pt2) pos.line X.env = pure false := by rfl) (hw : swappedStores [.Tuple [.Name x px, .Name y py] kt pt] (.Tuple [a, b] k2 pt2) X.env = pure none := by rfl)
    (h1 : (assignEach [.Tuple [.Name x px, .Name y py] kt pt] X.env).map (·.2) = [assign (.Tuple [.Name x px, .Name y py] kt pt) X.env] := by rfl) : JKE X R rk ρ (.Assign [.Tuple [.Name x px, .Name y py] kt pt] (.Tuple [a, b] k2 pt2) pos :: rest) κ (os.bind (cel2 k)) := fun v =>
  (jk_parC (k := fun cs _ => cel2 k cs = some v) B ha (fun c d => hr c d v) hi hj hx hy fx fy hn hst h2 h3 hs hw h1).imp fun _ h => bind_lift h
theorem jke_par3 {i j o : Nat} {x y z : Str} {px py pz pt pt2 : Pos} {kt k2 : Nat} {os : Option (List Cell)} {k : Cell → Cell → Cell → Option α} {l : Nat} (B : Bx X l) (ha : JCE X R ρ [a, b, c'] 3 os) (hr : ∀ c d e, JKE X R rk (((ρ.set i c).set j d).set o e) rest κ (k c d e)) (hij : i ≠ j := by decide) (hio : i ≠ o := by decide) (hjo : j ≠ o := by decide)
    (hx : X.env.scope.names.lookup x = some .local := by rfl) (hy : X.env.scope.names.lookup y = some .local := by rfl) (hz : X.env.scope.names.lookup z = some .local := by rfl)
    (hw : swappedStores [.Tuple [.Name x px, .Name y py, .Name z pz] kt pt] (.Tuple [a, b, c'] k2 pt2) X.env = pure (some [x, y, z]) := by rfl) (hi : X.N[i]? = some x := by rfl) (hj : X.N[j]? = some y := by rfl) (ho : X.N[o]? = some z := by rfl)
    (hs : swapsWithSole [.Tuple [.Name x px, .Name y py, .Name z pz] kt pt] (.Tuple [a, b, c'] k2 pt2) pos.line X.env = pure false := by rfl) : JKE X R rk ρ (.Assign [.Tuple [.Name x px, .Name y py, .Name z pz] kt pt] (.Tuple [a, b, c'] k2 pt2) pos :: rest) κ (os.bind (cel3 k)) := fun v =>
  (jk_par3 (k := fun cs _ => cel3 k cs = some v) B ha hij hio hjo hx hy hz hw (fun c d e => hr c d e v) hi hj ho hs).imp fun _ h => bind_lift h
/- loops -/
variable {env : S → List Cell} {s0 : S} {k : S → Option α}
theorem forO_K {bodyO : S → D → (S → Option α) → Option α} {a : α} {m : Nat} : ∀ {ds : List D} {s : S} {k : S → Option α} {kM : S → Nat → Prop}, (∀ s m, k s = some a → kM s m) → forO bodyO ds s k = some a →
    forK (fun s d kkM _ => ∃ kk : { kk : S → Option α // ∀ s' m, kk s' = some a → kkM s' m }, bodyO s d kk.1 = some a) ds s kM m
  | [], s, k, kM, hk, h => hk s m h
  | d :: ds, s, k, kM, hk, h => by
    refine ⟨⟨fun s' => forO bodyO ds s' k, fun s' m' h' => ?_⟩, h⟩
    exact forO_K (m := m') hk h'
theorem loop_k {kkM : S → Nat → Prop} {a : α} {sts : List Stmt} {o : Option α} (kk : { kk : S → Option α // ∀ s' m, kk s' = some a → kkM s' m }) (h : JKE X R rk ρ sts (KtLE env kk.1 fun ρ' o => JKE X R rk ρ' rest κ o) o) :
    JK X R rk ρ sts (KtL env kkM fun ρ' b => JK X R rk ρ' rest (κ.at a) (fun a' _ => a' = a) b) (fun a' _ => a' = a) (fun _ => o = some a) :=
  (h a).kmono (fun ρ' b ⟨o, ⟨s', w, e⟩, hb⟩ => ⟨s', w, fun m hm => kk.2 s' m (by rw [← e]; exact hb m hm)⟩) (fun ρ' b h => at_nx ρ' b h) fun ρ' b ⟨o, ⟨s', w, e⟩, hb⟩ => ⟨s', w, fun m hm => kk.2 s' m (by rw [← e]; exact hb m hm)⟩
theorem jke_for1 {oi : Option (List D)} {i n : Nat} {bodyO : S → D → (S → Option α) → Option α} (B : Bx X n) (hi : JIE X R ρ tg iter oi) (hg : JG X R tg [i] (bd1 i)) (w0 : Wk ρ (env s0))
    (hb : ∀ (s : S) (d : D) (kk : S → Option α), JKE X R rk ((env s).set i (.dat d)) body (KtLE env kk fun ρ' o => JKE X R rk ρ' rest κ o) (bodyO s d kk)) (hr : ∀ s, JKE X R rk (env s) rest κ (k s)) (hs : ∀ x, foldedSetIterable iter X.env x = pure x := by intro _; rfl) :
    JKE X R rk ρ (.For tg iter body [] pos :: rest) κ (oi.bind fun ds => forO bodyO ds s0 k) := fun a =>
  (jk_for (env := env) (s0 := s0) (k := fun s _ => k s = some a) (bodyM := fun s d kkM _ => ∃ kk : { kk : S → Option α // ∀ s' m, kk s' = some a → kkM s' m }, bodyO s d kk.1 = some a) B hi hg w0
    (fun s d kkM m h => ⟨_, rfl, jk_ex fun kk => loop_k kk (hb s d kk.1)⟩) (fun s => hr s a) hs).imp fun m h => by
      obtain ⟨ds, h1, h2⟩ := Option.bind_eq_some_iff.mp h
      exact ⟨ds, h1, forO_K (fun _ _ z => z) h2⟩
theorem jke_for2 {oi : Option (List D)} {i j n : Nat} {bodyO : S → D → D → (S → Option α) → Option α} (B : Bx X n) (hi : JIE X R ρ tg iter oi) (hg : JG X R tg [i, j] (bdT [i, j])) (w0 : Wk ρ (env s0))
    (hb : ∀ (s : S) (d e : D) (kk : S → Option α), JKE X R rk (((env s).set i (.dat d)).set j (.dat e)) body (KtLE env kk fun ρ' o => JKE X R rk ρ' rest κ o) (bodyO s d e kk)) (hr : ∀ s, JKE X R rk (env s) rest κ (k s)) (hs : ∀ x, foldedSetIterable iter X.env x = pure x := by intro _; rfl) :
    JKE X R rk ρ (.For tg iter body [] pos :: rest) κ (oi.bind fun ds => forO (fun s d kk => un2 d fun x y => bodyO s x y kk) ds s0 k) := fun a =>
  (jk_for (env := env) (s0 := s0) (k := fun s _ => k s = some a) (bodyM := fun s d kkM _ => ∃ kk : { kk : S → Option α // ∀ s' m, kk s' = some a → kkM s' m }, (un2 d fun x y => bodyO s x y kk.1) = some a) B hi hg w0
    (fun s d kkM m h => by
      obtain ⟨kk, h⟩ := h
      match d, h with
      | .tuple [x, y], h => exact ⟨_, rfl, jk_ex fun kk => loop_k kk (hb s x y kk.1)⟩) (fun s => hr s a) hs).imp fun m h => by
      obtain ⟨ds, h1, h2⟩ := Option.bind_eq_some_iff.mp h
      exact ⟨ds, h1, forO_K (bodyO := fun s d kk => un2 d fun x y => bodyO s x y kk) (fun _ _ z => z) h2⟩
theorem whileO_K {cO : S → Option Bool} {bodyO : S → (S → Option α) → Option α} {a : α} : ∀ {n : Nat} {s : S} {k : S → Option α} {kM : S → Nat → Prop} {m : Nat}, (∀ s m, k s = some a → kM s m) → whileO cO bodyO n s k = some a →
    whileK (fun s => lift (cO s)) (fun s kkM _ => ∃ kk : { kk : S → Option α // ∀ s' m, kk s' = some a → kkM s' m }, bodyO s kk.1 = some a) n s kM m
  | 0, s, k, kM, m, hk, h => by cases h
  | n + 1, s, k, kM, m, hk, h => by
    obtain ⟨t, h1, h2⟩ := Option.bind_eq_some_iff.mp h
    refine ⟨t, h1, ?_⟩
    cases t with
    | false => exact hk s m h2
    | true => exact ⟨⟨fun s' => whileO cO bodyO n s' k, fun s' m' h' => whileO_K hk h'⟩, h2⟩
theorem jke_while {cO : S → Option Bool} {bodyO : S → (S → Option α) → Option α} {n l : Nat} (B : Bx X l) (w0 : Wk ρ (env s0)) (hc : ∀ s, JTE X R (env s) c (cO s))
    (hb : ∀ (s : S) (kk : S → Option α), JKE X R rk (env s) body (KtLE env kk fun ρ' o => JKE X R rk ρ' rest κ o) (bodyO s kk)) (hr : ∀ s, JKE X R rk (env s) rest κ (k s)) : JKE X R rk ρ (.While c body [] pos :: rest) κ (whileO cO bodyO n s0 k) := fun a =>
  (jk_while (env := env) (s0 := s0) (k := fun s _ => k s = some a) (bodyM := fun s kkM _ => ∃ kk : { kk : S → Option α // ∀ s' m, kk s' = some a → kkM s' m }, bodyO s kk.1 = some a) B w0 hc (fun s kkM => jk_ex fun kk => loop_k kk (hb s kk.1)) (fun s => hr s a)).imp fun m h => whileO_K (fun _ _ z => z) h
end
def KtFL : KtE (List D) := ⟨fun _ _ => False, fun _ _ => False, fun _ _ => False⟩
def KtFD : KtE D := ⟨fun _ o => o = some .none, fun _ _ => False, fun _ _ => False⟩
section
variable {P : Program} {w : World} {K : PySem.W.Frag} {mg : Str → Option Value} {base : Heap}
theorem kn_dat {F : List D → Option D} {x : Str} {st : Stmt} {f : Addr} {fd : FuncData} {N ps : List Str} {k n : Nat} (Fn : Fun K x x st f fd) (mx : mg x = some (.ref f)) (bs : Binds K fd ps []) (Sc : FnScope N ps (defScope st)) (hn : ps.length = n)
    (body : ∀ (cdv : Value) (A : Around) (outer : List Env) (s : Shared) (H : Hp) (E : XK), Bx (cxG P w K mg base N x st f cdv A outer s H E) k → ∀ ds : List D, ds.length = n → JKE (cxG P w K mg base N x st f cdv A outer s H E) (Res.pure H) .dat (startC N ds) (defBody st) KtFD (F ds)) : Kn P w K mg base x (k + 1) (spR .dat n F) :=
  kn_pure Fn mx bs Sc hn fun cdv A outer s H E B ds hl a => (body cdv A outer s H E B ds hl a).kmono (fun ρ b ⟨o, e, h⟩ m hb => by
    have h := h m hb
    rw [show o = some .none from e] at h
    exact Option.some.inj h) (fun _ _ ⟨_, h, _⟩ => h) fun _ _ ⟨_, h, _⟩ => h
theorem kn_lst {F : List D → Option (List D)} {x : Str} {st : Stmt} {f : Addr} {fd : FuncData} {N ps : List Str} {k n : Nat} (Fn : Fun K x x st f fd) (mx : mg x = some (.ref f)) (bs : Binds K fd ps []) (Sc : FnScope N ps (defScope st)) (hn : ps.length = n)
    (body : ∀ (cdv : Value) (A : Around) (outer : List Env) (s : Shared) (H : Hp) (E : XK), Bx (cxG P w K mg base N x st f cdv A outer s H E) k → ∀ ds : List D, ds.length = n → JKE (cxG P w K mg base N x st f cdv A outer s H E) (Res.pure H) .lst (startC N ds) (defBody st) KtFL (F ds)) : Kn P w K mg base x (k + 1) (spR .lst n F) :=
  kn_pure Fn mx bs Sc hn fun cdv A outer s H E B ds hl a => (body cdv A outer s H E B ds hl a).kmono (fun _ _ ⟨_, h, _⟩ => h) (fun _ _ ⟨_, h, _⟩ => h) fun _ _ ⟨_, h, _⟩ => h
end
end Dl

set_option Elab.async false
set_option linter.all false
set_option autoImplicit false
set_option maxRecDepth 100000
set_option maxHeartbeats 1000000
namespace Dl
open PySem L2

/-! ### truth of any datum -/
def asT : D → Option Bool
  | .none => some false
  | .bool b => some b
  | .int i => some (i != 0)
  | .str y => if y.length ≤ sizeLine then some ((y.length : Int) != 0) else none
  | .list xs => some (!xs.isEmpty)
  | .tuple xs => some (!xs.isEmpty)
  | .dict _ => none
theorem isE_len {α β : Type} {xs : List α} {ys : List β} (h : xs.length = ys.length) : (!xs.isEmpty) = !ys.isEmpty := by
  cases xs <;> cases ys <;> simp_all
theorem tru_d {K : PySem.W.Frag} {G H : Hp} {v : V} {d : D} {b : Bool} (gh : Same G H) (r : Rp G v d) (h : asT d = some b) : TruV K v H b := by
  cases r with
  | non => cases h; rfl
  | bl c => cases h; rfl
  | int i => cases h; rfl
  | str z =>
    simp only [asT, Option.ite_none_right_eq_some, Option.some.injEq] at h
    exact ⟨h.1, h.2.symm⟩
  | lst hp r =>
    cases h
    exact .inl ⟨_, SqL.of (gh _ _ hp), isE_len r.length.symm⟩
  | tup hp r =>
    cases h
    exact .inr (.inl ⟨_, SqT.of (gh _ _ hp), isE_len r.length.symm⟩)
section
variable {X : Cx} {R : Res} {ρ : List Cell} {e a b c : Expr} {pos : Pos}
theorem jt_tru {T : M D} (h : JM X R ρ e T) (he : ∀ whole, isTrue e X.env whole = (do let v ← whole; standAt e.pos; holding [v] (truthy v)) := by intro _; rfl) : JT X R ρ e (fun q => T fun d m => lift (asT d) q m) := by
  refine PT.imp (pt_truth h he) fun σ H Q ⟨G, m, q, S, t, k⟩ => ⟨G, m, _, S, t, fun v d G' H' m' S' g r hq => ?_⟩
  obtain ⟨b, hb, hq⟩ := hq
  exact ⟨b, tru_d S'.gh r hb, k b G' H' m' S' g hq⟩
theorem jte_tru {o : Option D} (h : JE X R ρ e o) (he : ∀ whole, isTrue e X.env whole = (do let v ← whole; standAt e.pos; holding [v] (truthy v)) := by intro _; rfl) : JTE X R ρ e (o.bind asT) := (jt_tru h he).imp fun _ _ => lift1

/-! ### lists by a test -/
theorem jl_if {Tc : M Bool} {Ta Tb : M (List D)} (hc : JT X R ρ c Tc) (ha : JL X R ρ a Ta) (hb : JL X R ρ b Tb) : JL X R ρ (.IfExp c a b pos) (fun q m => Tc (fun t m1 => if t = true then Ta q m1 else Tb q m1) m) := by
  refine PE.imp (pe_ifExp hc ha hb) fun σ H Q ⟨G, m, q, S, t, k⟩ => ⟨G, m, _, S, t, fun c G1 H1 m1 S1 g1 q1 => ?_⟩
  cases c with
  | true =>
    show tL R ρ Ta σ H1 Q
    exact ⟨G1, m1, q, S1, q1, fun p vs ds G2 H2 m2 S2 g2 hp gp hp2 r2 q2 => k p vs ds G2 H2 m2 S2 (g1.trans S1.vh g2) (free_of g1 S1.vh hp) gp hp2 r2 q2⟩
  | false =>
    show tL R ρ Tb σ H1 Q
    exact ⟨G1, m1, q, S1, q1, fun p vs ds G2 H2 m2 S2 g2 hp gp hp2 r2 q2 => k p vs ds G2 H2 m2 S2 (g1.trans S1.vh g2) (free_of g1 S1.vh hp) gp hp2 r2 q2⟩
theorem jle_if {oc : Option Bool} {oa ob : Option (List D)} (hc : JTE X R ρ c oc) (ha : JLE X R ρ a oa) (hb : JLE X R ρ b ob) : JLE X R ρ (.IfExp c a b pos) (ifO oc oa ob) := (jl_if hc ha hb).imp fun q m h => by
  obtain ⟨t, h1, h2⟩ := lift1 h
  refine ⟨t, h1, ?_⟩
  cases t <;> exact h2

/-! ### zip -/
def zipD : List D → List D → List D
  | x :: xs, y :: ys => .tuple [x, y] :: zipD xs ys
  | _, _ => []
theorem zipD_len : ∀ (xs ys : List D), (zipD xs ys).length = min xs.length ys.length
  | [], _ => by simp [zipD]
  | _ :: _, [] => by simp [zipD]
  | x :: xs, y :: ys => by simp [zipD, zipD_len xs ys]
theorem zipD_at : ∀ {xs ys : List D} {i : Nat} {x y : D}, xs[i]? = some x → ys[i]? = some y → (zipD xs ys)[i]? = some (.tuple [x, y])
  | [], _, _, _, _, h, _ => by simp at h
  | _ :: _, [], _, _, _, _, h => by simp at h
  | x :: xs, y :: ys, 0, _, _, h, k => by cases h; cases k; trivial
  | x :: xs, y :: ys, i + 1, _, _, h, k => zipD_at (xs := xs) (ys := ys) (i := i) (by simpa using h) (by simpa using k)
def dZip : D → D → Option (List D)
  | .list xs, .list ys => some (zipD xs ys)
  | .tuple xs, .tuple ys => some (zipD xs ys)
  | _, _ => none
theorem walk_zl {K : PySem.W.Frag} {G : Hp} {p q : Addr} {vs ws : List V} {ds es : List D} (hp : G p = some (.lst vs)) (hq : G q = some (.lst ws)) (r : RpL G vs ds) (r2 : RpL G ws es) : IsWalk G (Itz K p q) (zipD ds es) where
  go := fun i H s hi => by
    rw [zipD_len] at hi
    have h1 : i < vs.length := by rw [r.length]; omega
    have h2 : i < ws.length := by rw [r2.length]; omega
    exact ⟨vs, ws, _, _, SqL.of (s _ _ hp), SqL.of (s _ _ hq), List.getElem?_eq_getElem h1, List.getElem?_eq_getElem h2⟩
  stop := fun H s => ⟨vs, ws, SqL.of (s _ _ hp), SqL.of (s _ _ hq), by rw [zipD_len, r.length, r2.length]; omega⟩
  yld := fun i H x H' s hi y => by
    obtain ⟨T, x, y, rfl, hT, rfl, f1, f2⟩ := y
    obtain ⟨d, hd, rd⟩ := r.getV (f1 _ (SqL.of (s _ _ hp)))
    obtain ⟨e, he, re⟩ := r2.getV (f2 _ (SqL.of (s _ _ hq)))
    exact ⟨_, zipD_at hd he, .inr ⟨T, _, _, rfl, hT, rfl, rfl, .cons rd (.cons re .nil)⟩⟩
theorem walk_zt {K : PySem.W.Frag} {G : Hp} {p q : Addr} {vs ws : List V} {ds es : List D} (hp : G p = some (.tup vs)) (hq : G q = some (.tup ws)) (r : RpL G vs ds) (r2 : RpL G ws es) : IsWalk G (RZ.ItzT K p q) (zipD ds es) where
  go := fun i H s hi => by
    rw [zipD_len] at hi
    have h1 : i < vs.length := by rw [r.length]; omega
    have h2 : i < ws.length := by rw [r2.length]; omega
    exact ⟨vs, ws, _, _, SqT.of (s _ _ hp), SqT.of (s _ _ hq), List.getElem?_eq_getElem h1, List.getElem?_eq_getElem h2⟩
  stop := fun H s => ⟨vs, ws, SqT.of (s _ _ hp), SqT.of (s _ _ hq), by rw [zipD_len, r.length, r2.length]; omega⟩
  yld := fun i H x H' s hi y => by
    obtain ⟨T, x, y, rfl, hT, rfl, f1, f2⟩ := y
    obtain ⟨d, hd, rd⟩ := r.getV (f1 _ (SqT.of (s _ _ hp)))
    obtain ⟨e, he, re⟩ := r2.getV (f2 _ (SqT.of (s _ _ hq)))
    exact ⟨_, zipD_at hd he, .inr ⟨T, _, _, rfl, hT, rfl, rfl, .cons rd (.cons re .nil)⟩⟩
theorem ji_zip {Ts : M (List D)} {p tpos : Pos} {elts : List Expr} {kk : Nat} (hm : X.mg "zip" = none) (ha : JA X R ρ [a, b] 2 Ts) (hg : Gl X "zip" := by rfl)
    (hs : starEach [a, b] X.env = (false, eval a X.env) :: starEach [b] X.env := by rfl) (hpl : (backTo pos (starEach [b] X.env)).any (·.1) = false := by rfl) : JI X R ρ (.Tuple elts kk tpos) (.Call (.Name "zip" p) [a, b] [] pos) (fun q => Ts fun ds => lift (F2 dZip ds) q) := by
  refine PI.imp (RZ.pi_zipA hg hm ha hs hpl) fun σ H Rr ⟨G, m, q, S, t, k⟩ => ⟨G, m, _, S, t, fun vs ds G1 H1 m1 S1 g1 r1 l1 q1 => ?_⟩
  obtain ⟨es, hd, q1⟩ := q1
  cases r1 with
  | nil => cases hd
  | cons r1 r2 =>
    cases r2 with
    | nil => cases hd
    | cons r2 r3 =>
      cases r3 with
      | cons _ _ => cases hd
      | nil =>
        cases r1 with
        | lst h1 ra =>
          cases r2 with
          | lst h2 rb =>
            cases hd
            exact ⟨_, _, _, _, rfl, .inl ⟨SqL.of (S1.gh _ _ h1), SqL.of (S1.gh _ _ h2), k _ _ G1 H1 m1 S1 g1 (walk_zl h1 h2 ra rb) q1⟩⟩
          | _ => cases hd
        | tup h1 ra =>
          cases r2 with
          | tup h2 rb =>
            cases hd
            exact ⟨_, _, _, _, rfl, .inr ⟨SqT.of (S1.gh _ _ h1), SqT.of (S1.gh _ _ h2), k _ _ G1 H1 m1 S1 g1 (walk_zt h1 h2 ra rb) q1⟩⟩
          | _ => cases hd
        | _ => cases r2 <;> cases hd
theorem jie_zip {oa ob : Option D} {p tpos : Pos} {elts : List Expr} {kk : Nat} (hm : X.mg "zip" = none) (ha : JE X R ρ a oa) (hb : JE X R ρ b ob) (hg : Gl X "zip" := by rfl)
    (hs : starEach [a, b] X.env = (false, eval a X.env) :: starEach [b] X.env := by rfl) (hs2 : starEach [b] X.env = (false, eval b X.env) :: starEach [] X.env := by rfl) (hpl : (backTo pos (starEach [b] X.env)).any (·.1) = false := by rfl) : JIE X R ρ (.Tuple elts kk tpos) (.Call (.Name "zip" p) [a, b] [] pos) (C2 dZip oa ob) :=
  (ji_zip hm (jae_cons ha (jae_cons hb jae_nil hs2) hs) hg hs hpl).imp fun q m h => liftF (by rw [c2_eq]; exact h)
theorem JIE.new {tg : Expr} {o : Option (List D)} (h : JLE X R ρ e o) : JIE X R ρ tg e o := ji_new h
end

/-! ### sum -/
theorem cd_sum {K : PySem.W.Frag} : CallD (rSum K) (F1 fun d => match d with | .list xs => (intsOf xs).map fun ns => PyData.int ns.sum | _ => none) := by
  intro G H vs ds z Q gh r hF k
  cases r with
  | nil => cases hF
  | cons a b =>
    cases b with
    | cons _ _ => cases hF
    | nil =>
      cases a with
      | @lst p vs ds hp r =>
        obtain ⟨bs, h1, rfl⟩ := Option.map_eq_some_iff.mp (show (intsOf ds).map _ = some z from hF)
        have e := intsOf_eq h1
        subst e
        have e := r.ints
        subst e
        exact ⟨p, bs, rfl, SqL.of (gh _ _ hp), k _ G H (Grow.refl _ _ _) gh (.int _)⟩
      | _ => cases hF

/-! ### a list of one's own is given away -/
section
variable {α : Type} {X : Cx} {R : Res} {rk : RK α} {ρ : List Cell} {st : Stmt} {rest A B' : List Stmt} {κ : Kt} {q : α → Nat → Prop} {e c : Expr} {pos : Pos}
theorem Sit.shareO {σ : L2.St} {G H : Hp} {m : Nat} (S : Sit R σ ρ G H m) {i : Nat} {ds : List D} (hρ : ρ[i]? = some (.own ds)) : ∃ G', Sit R σ (ρ.set i (.dat (.list ds))) G' H m ∧ Same G G' ∧ ∀ {Gb : Hp}, Grow R.vol Gb R.ent G H → Grow R.vol Gb R.ent G' H := by
  obtain ⟨l, vs, e, gl, nv, en, hl, r⟩ := S.ownT hρ
  obtain ⟨g1, g2⟩ := grow_share S.gh gl hl
  have hi : i < ρ.length := (List.getElem?_eq_some_iff.mp hρ).1
  refine ⟨upd G l (.lst vs), ⟨⟨g2, fun a v => ?_, S.vh, R.sm g1 S.js, S.jd, S.en⟩, by simp [S.len], fun j c ec => ?_, fun j k es fs l' e1 e2 e3 e4 => ?_⟩, g1, fun g => ⟨g.gg.trans g1, g.hh, fun a ga ha => ?_⟩⟩
  · rw [upd_ne fun z : a = l => nv (z ▸ v)]; exact S.vg a v
  · by_cases hj : i = j
    · subst hj
      rw [List.getElem?_set_self hi] at ec
      cases ec
      exact ⟨_, e, .lst upd_same (r.mono g1)⟩
    · rw [List.getElem?_set_ne hj] at ec
      have q := S.cell j c ec
      cases c with
      | no => trivial
      | raw v => exact q
      | dat d =>
        obtain ⟨v, e, rv⟩ := q
        exact ⟨v, e, rv.mono g1⟩
      | own fs =>
        obtain ⟨l2, vs2, q1, q2, q3, q6, q4, q5⟩ := q
        refine ⟨l2, vs2, q1, ?_, q3, q6, q4, q5.mono g1⟩
        rw [upd_ne (fun z => hj (S.apart i j ds fs l hρ ec e (by rw [q1, z])))]
        exact q2
  · obtain ⟨n1, e1⟩ := own_set (c := .dat (.list ds)) (fun _ z => nomatch z) e1
    obtain ⟨n2, e2⟩ := own_set (c := .dat (.list ds)) (fun _ z => nomatch z) e2
    exact S.apart j k es fs l' e1 e2 e3 e4
  · by_cases z : a = l
    · subst z; exact absurd en ha
    · rw [upd_ne z]; exact g.new a ga ha
theorem jk_give {sts : List Stmt} {a : Nat → Prop} (i : Nat) {ds : List D} (h : JK X R rk (ρ.set i (.dat (.list ds))) sts κ q a) (hρ : ρ[i]? = some (.own ds) := by rfl) : JK X R rk ρ sts κ q a :=
  PSs.imp h fun Dn σ H ⟨Gb, G, m, S, g, t, ls⟩ => by
    obtain ⟨G', S', s', g'⟩ := S.shareO hρ
    exact ⟨Gb, G', m, S', g' g, t, ls.sm s'⟩
theorem JK.weak {ρ' : List Cell} {sts : List Stmt} {a : Nat → Prop} (h : JK X R rk ρ' sts κ q a) (w : Wk ρ ρ') : JK X R rk ρ sts κ q a :=
  PSs.imp h fun Dn σ H ⟨Gb, G, m, S, g, t, ls⟩ => ⟨Gb, G, m, S.weak w, g, t, ls⟩
/-! ### two ways that meet again -/
def KtJ {S : Type} (env : S → List Cell) (kk : S → Nat → Prop) (κ : Kt) : Kt := ⟨fun ρ' b => ∃ s', Wk ρ' (env s') ∧ ∀ m, b m → kk s' m, κ.bk, κ.ct⟩
def joinK {S : Type} (k : S → Nat → Prop) (b : (S → Nat → Prop) → Nat → Prop) : Nat → Prop := b k
theorem jk_ifJ {S : Type} {env : S → List Cell} {k : S → Nat → Prop} {Tc : M Bool} {aA aB : (S → Nat → Prop) → Nat → Prop} (hc : JT X R ρ c Tc) (hA : ∀ kk, JK X R rk ρ A (KtJ env kk κ) q (aA kk)) (hB : ∀ kk, JK X R rk ρ B' (KtJ env kk κ) q (aB kk)) (hr : ∀ s, JK X R rk (env s) rest κ q (k s)) :
    JK X R rk ρ (.If c A B' pos :: rest) κ q (joinK k fun kk => Tc fun t m => if t = true then aA kk m else aB kk m) := by
  have key : ∀ (ρ' : List Cell) (b : Nat → Prop), (∃ s', Wk ρ' (env s') ∧ ∀ m, b m → k s' m) → JK X R rk ρ' rest κ q b := fun ρ' b ⟨s', w, hb⟩ => ((hr s').weak w).imp hb
  exact jk_if hc ((hA k).kmono key (fun _ _ h => h) fun _ _ h => h) ((hB k).kmono key (fun _ _ h => h) fun _ _ h => h)
end
section
variable {α : Type} {X : Cx} {R : Res} {rk : RK α} {ρ : List Cell} {st : Stmt} {rest A B' : List Stmt} {κ : KtE α} {e c : Expr} {pos : Pos}
theorem jke_give {sts : List Stmt} {o : Option α} (i : Nat) {ds : List D} (h : JKE X R rk (ρ.set i (.dat (.list ds))) sts κ o) (hρ : ρ[i]? = some (.own ds) := by rfl) : JKE X R rk ρ sts κ o := fun a => jk_give i (h a) hρ
theorem JKE.weak {ρ' : List Cell} {sts : List Stmt} {o : Option α} (h : JKE X R rk ρ' sts κ o) (w : Wk ρ ρ') : JKE X R rk ρ sts κ o := fun a => (h a).weak w
theorem JKE.kmono {κ' : KtE α} {sts : List Stmt} {o : Option α} (h : JKE X R rk ρ sts κ o) (k1 : ∀ ρ b, κ.nx ρ b → κ'.nx ρ b) (k2 : ∀ ρ b, κ.bk ρ b → κ'.bk ρ b) (k3 : ∀ ρ b, κ.ct ρ b → κ'.ct ρ b) : JKE X R rk ρ sts κ' o := fun a =>
  (h a).kmono (fun ρ b ⟨o, h, z⟩ => ⟨o, k1 ρ o h, z⟩) (fun ρ b ⟨o, h, z⟩ => ⟨o, k2 ρ o h, z⟩) fun ρ b ⟨o, h, z⟩ => ⟨o, k3 ρ o h, z⟩
def KtJE {S : Type} (env : S → List Cell) (kk : S → Option α) (κ : KtE α) : KtE α := ⟨fun ρ' o => ∃ s', Wk ρ' (env s') ∧ o = kk s', κ.bk, κ.ct⟩
def joinO {S α : Type} (k : S → Option α) (b : (S → Option α) → Option α) : Option α := b k
theorem jke_ifJ {S : Type} {env : S → List Cell} {k : S → Option α} {oc : Option Bool} {oA oB : (S → Option α) → Option α} (hc : JTE X R ρ c oc) (hA : ∀ kk, JKE X R rk ρ A (KtJE env kk κ) (oA kk)) (hB : ∀ kk, JKE X R rk ρ B' (KtJE env kk κ) (oB kk)) (hr : ∀ s, JKE X R rk (env s) rest κ (k s)) :
    JKE X R rk ρ (.If c A B' pos :: rest) κ (joinO k fun kk => ifO oc (oA kk) (oB kk)) := by
  have key : ∀ (ρ' : List Cell) (o : Option α), (∃ s', Wk ρ' (env s') ∧ o = k s') → JKE X R rk ρ' rest κ o := fun ρ' o ⟨s', w, e⟩ => by subst e; exact (hr s').weak w
  exact jke_if hc ((hA k).kmono key (fun _ _ h => h) fun _ _ h => h) ((hB k).kmono key (fun _ _ h => h) fun _ _ h => h)
/-- the end of a block that is followed by what is said of its cells -/
theorem jke_end {S : Type} {env : S → List Cell} {kk : S → Option α} (s : S) (w : Wk ρ (env s)) : JKE X R rk ρ [] (KtJE env kk κ) (kk s) := jke_nil ⟨s, w, rfl⟩
theorem jke_endL {S : Type} {env : S → List Cell} {kk : S → Option α} {bk : List Cell → Option α → Prop} (s : S) (w : Wk ρ (env s)) : JKE X R rk ρ [] (KtLE env kk bk) (kk s) := jke_nil ⟨s, w, rfl⟩
theorem jke_contL {S : Type} {env : S → List Cell} {kk : S → Option α} {bk : List Cell → Option α → Prop} (s : S) (w : Wk ρ (env s)) : JKE X R rk ρ (.Continue pos :: rest) (KtLE env kk bk) (kk s) := jke_cont ⟨s, w, rfl⟩
end
section
variable {P : Program} {w : World} {K : PySem.W.Frag} {mg : Str → Option Value} {base : Heap} {x : Str} {sp : Sp}
theorem Kn.mono {j k : Nat} (h : Kn P w K mg base x j sp) (l : j ≤ k := by omega) : Kn P w K mg base x k sp := by
  obtain ⟨f, fd, ps, F, r⟩ := h
  exact ⟨f, fd, ps, F.mono l, r⟩
end
/-- the equation first -/
theorem JM.by {X : Cx} {R : Res} {ρ : List Cell} {e : Expr} {o o' : Option D} (k : o = o') (h : JE X R ρ e o) : JE X R ρ e o' := h.eq k
theorem JL.by {X : Cx} {R : Res} {ρ : List Cell} {e : Expr} {o o' : Option (List D)} (k : o = o') (h : JLE X R ρ e o) : JLE X R ρ e o' := h.eq k
end Dl

set_option Elab.async false
set_option linter.all false
set_option autoImplicit false
set_option maxRecDepth 100000
set_option maxHeartbeats 1000000
namespace Dl
open PySem L2
def dLe : D → D → Option D := dCmp fun i j => decide (i ≤ j)
def dGt : D → D → Option D := dCmp fun i j => decide (j < i)
def dGe : D → D → Option D := dCmp fun i j => decide (j ≤ i)
theorem od_le : OpD (rI0 fun i j => V.bl (decide (i ≤ j))) dLe := od_cmp
theorem od_gt : OpD (rI0 fun i j => V.bl (decide (j < i))) dGt := od_cmp
theorem od_ge : OpD (rI0 fun i j => V.bl (decide (j ≤ i))) dGe := od_cmp
def dSumL : D → Option D := fun d => match d with | .list xs => (intsOf xs).map fun ns => PyData.int ns.sum | _ => none
theorem cd_sumL {K : PySem.W.Frag} : CallD (rSum K) (F1 dSumL) := cd_sum
section
variable {X : Cx} {R : Res} {ρ : List Cell} {tg iter elt : Expr} {ifs : List Expr} {scope : Scope} {own : List (Str × Nat)} {pos : Pos} {k : Nat}
/-- name = [..] with the name a plain local: pure -/
theorem ste_lc1 {oi : Option (List D)} {i j : Nat} {y : Str} {py spos : Pos} {ot : D → Option Bool} {oe : D → Option D} (B : Bx X k) (hi : JIE X R ρ tg iter oi) (ok : BlkOk X.N X.env.scope scope own)
    (hg : ∀ (s : Shared) (H : Hp) (C : Addr) (cl : List (Str × Addr)) (fp : List Addr), JG (X.blk s H scope (compEnvC scope cl C X.env) fp) R tg [i] (bd1 i))
    (ht : ∀ d, OkTE X R scope ((wipeC ρ (own.map (·.2))).set i (.dat d)) ifs (ot d)) (he : ∀ d, OkEE X R scope ((wipeC ρ (own.map (·.2))).set i (.dat d)) elt (oe d))
    (hy : X.N[j]? = some y := by rfl) (hyl : X.env.scope.names.lookup y = some .local := by rfl) (hsw : swapsWith (.ListComp elt [⟨tg, iter, ifs, 0⟩] scope pos) (some (.Name y py)) spos.line X.env = pure true := by rfl)
    (hsl : ∀ j ∈ [i], j ∈ own.map (·.2) := by decide) (hs : ∀ x, foldedSetIterable iter X.env x = pure x := by intro _; rfl) : PS X (.Assign [.Name y py] (.ListComp elt [⟨tg, iter, ifs, 0⟩] scope pos) spos) (tAsg (tL R ρ (lift (lcO oi fun d => turnO (ot d) (oe d)))) (gName j)) :=
  PS.tl (js_lc B hy hyl hsw hi ok hsl hg (f := fun d => lift (turnO (ot d) (oe d))) (fun d q m h => ⟨_, _, _, rfl, ht d, he d, turnO_M h⟩) hs) fun _ _ => lcO_lcM
theorem ste_lc2 {oi : Option (List D)} {i1 i2 j : Nat} {y : Str} {py spos : Pos} {ot : D → D → Option Bool} {oe : D → D → Option D} (B : Bx X k) (hi : JIE X R ρ tg iter oi) (ok : BlkOk X.N X.env.scope scope own)
    (hg : ∀ (s : Shared) (H : Hp) (C : Addr) (cl : List (Str × Addr)) (fp : List Addr), JG (X.blk s H scope (compEnvC scope cl C X.env) fp) R tg [i1, i2] (bdT [i1, i2]))
    (ht : ∀ a b, OkTE X R scope (((wipeC ρ (own.map (·.2))).set i1 (.dat a)).set i2 (.dat b)) ifs (ot a b)) (he : ∀ a b, OkEE X R scope (((wipeC ρ (own.map (·.2))).set i1 (.dat a)).set i2 (.dat b)) elt (oe a b))
    (hy : X.N[j]? = some y := by rfl) (hyl : X.env.scope.names.lookup y = some .local := by rfl) (hsw : swapsWith (.ListComp elt [⟨tg, iter, ifs, 0⟩] scope pos) (some (.Name y py)) spos.line X.env = pure true := by rfl)
    (hsl : ∀ l ∈ [i1, i2], l ∈ own.map (·.2) := by decide) (hs : ∀ x, foldedSetIterable iter X.env x = pure x := by intro _; rfl) : PS X (.Assign [.Name y py] (.ListComp elt [⟨tg, iter, ifs, 0⟩] scope pos) spos) (tAsg (tL R ρ (lift (lcO oi fun d => un2 d fun a b => turnO (ot a b) (oe a b)))) (gName j)) :=
  PS.tl (js_lc B hy hyl hsw hi ok hsl hg (f := fun d => lift (un2 d fun a b => turnO (ot a b) (oe a b))) (fun d q m h => by
    obtain ⟨z, h1, h2⟩ := h
    match d, h1 with
    | .tuple [a, b], h1 => exact ⟨_, _, _, rfl, ht a b, he a b, turnO_M ⟨z, h1, h2⟩⟩) hs) fun _ _ => lcO_lcM
theorem okTE_one {c : Expr} {o : Option Bool} (h : ∀ (s : Shared) (H : Hp) (C : Addr) (cl : List (Str × Addr)) (fp : List Addr), JTE (X.blk s H scope (compEnvC scope cl C X.env) fp) R ρ c o) : OkTE X R scope ρ [c] o := okT_one h
end
end Dl

set_option Elab.async false
set_option linter.all false
set_option autoImplicit false
set_option maxRecDepth 100000
set_option maxHeartbeats 1000000
namespace Dl
open PySem L2 PySem.Spec PyProof.Rows

/-! ### sum, of a tuple too -/
def rSumT (K : PySem.W.Frag) : List V → Hp → VK → Prop := fun vs H Q => ∃ (a : Addr) (ns : List Int), vs = [V.ref a] ∧ SqT K H a (ns.map V.int) ∧ Q (.int ns.sum) H
theorem cr_sumT {X : Cx} (hc : X.calm = true) : CallR X (.builtin "sum") (rSumT X.K) := by
  intro pins s σ H vs us Q I r h
  obtain ⟨a, ns, rfl, hs, q⟩ := h
  obtain ⟨its, rv, hl, _⟩ := I.tuple hs
  rw [Vals.ref1 r]
  have hi := rv.ints
  obtain ⟨xs, e⟩ := hi.allInts.items
  have hn : numsOf (intItems xs).toList = ns := by rw [← e]; exact hi.numsOf
  rw [nums_intItems] at hn
  have hl2 : s.heap.IsTuple a its.toArray := hl
  rw [e] at hl2
  refine PySem.W.ktm_sumG (I.ok.hd hc) hl2 fun h' tk t' hk => ⟨.int ns.sum, H, I.kept hk, ⟨t', ?_⟩, q⟩
  rw [preSum_eq, List.take_of_length_le (by simp), hn]
theorem cd_sumA {K : PySem.W.Frag} : CallD (fun vs H Q => rSum K vs H Q ∨ rSumT K vs H Q) (F1 dSum) := by
  intro G H vs ds z Q gh r hF k
  cases r with
  | nil => cases hF
  | cons a b =>
    cases b with
    | cons _ _ => cases hF
    | nil =>
      cases a with
      | @lst p vs ds hp r =>
        obtain ⟨bs, h1, rfl⟩ := Option.map_eq_some_iff.mp (show (intsOf ds).map _ = some z from hF)
        have e := intsOf_eq h1
        subst e
        have e := r.ints
        subst e
        exact .inl ⟨p, bs, rfl, SqL.of (gh _ _ hp), k _ G H (Grow.refl _ _ _) gh (.int _)⟩
      | @tup p vs ds hp r =>
        obtain ⟨bs, h1, rfl⟩ := Option.map_eq_some_iff.mp (show (intsOf ds).map _ = some z from hF)
        have e := intsOf_eq h1
        subst e
        have e := r.ints
        subst e
        exact .inr ⟨p, bs, rfl, SqT.of (gh _ _ hp), k _ G H (Grow.refl _ _ _) gh (.int _)⟩
      | _ => cases hF
theorem cr_sumA {X : Cx} (hc : X.calm = true) : CallR X (.builtin "sum") (fun vs H Q => rSum X.K vs H Q ∨ rSumT X.K vs H Q) := by
  intro pins s σ H vs us Q I r h
  rcases h with h | h
  · exact cr_sum hc pins s σ H vs us Q I r h
  · exact cr_sumT hc pins s σ H vs us Q I r h

/-! ### slices -/
def cutD (xs : List D) (lo hi : Option Int) : List D := (xs.drop (HT.sIx xs.length 0 lo)).take (HT.sIx xs.length xs.length hi - HT.sIx xs.length 0 lo)
theorem RpL.cut {G : Hp} {vs : List V} {ds : List D} (r : RpL G vs ds) (lo hi : Option Int) : RpL G (cutV vs lo hi) (cutD ds lo hi) := by
  unfold cutV cutD
  rw [r.length]
  exact (r.drop _).take _
theorem cutD_all {xs : List D} {lo hi : Option Int} (h1 : HT.sIx xs.length 0 lo = 0) (h2 : HT.sIx xs.length xs.length hi = xs.length) : cutD xs lo hi = xs := by
  unfold cutD
  rw [h1, h2]; simp
def dCut : D → Option Int → Option Int → Option D
  | .list xs, lo, hi => some (.list (cutD xs lo hi))
  | .tuple xs, lo, hi => some (.tuple (cutD xs lo hi))
  | .str z, lo, hi => if z.length ≤ sizeLine then some (.str (cutS z lo hi)) else none
  | _, _, _ => none
def slO (oe : Option D) (lo hi : Option (Option Int)) : Option D := oe.bind fun d => lo.bind fun l => hi.bind fun u => dCut d l u
def asI : D → Option (Option Int)
  | .int i => some (some i)
  | _ => none
def tO (R : Res) (ρ : List Cell) (T : M (Option Int)) : TO := fun σ H Q => ∃ G m q, Sit R σ ρ G H m ∧ T q m ∧ ∀ o G' H' m', Sit R σ ρ G' H' m' → Grow R.vol G H G' H' → q o m' → Q o H'
def JO (X : Cx) (R : Res) (ρ : List Cell) (e : Option Expr) (T : M (Option Int)) : Prop := PO X e (tO R ρ T)
theorem PO.imp {X : Cx} {e : Option Expr} {t t' : TO} (h : PO X e t) (k : ∀ σ H Q, t' σ H Q → t σ H Q) : PO X e t' := ⟨fun pins s σ H Q I q => h.run pins s σ H Q I (k σ H Q q)⟩
section
variable {X : Cx} {R : Res} {ρ : List Cell} {e a b c : Expr} {pos p2 : Pos} {lo hi : Option Expr}
theorem JO.imp {T T' : M (Option Int)} {e : Option Expr} (h : JO X R ρ e T) (k : ∀ q m, T' q m → T q m) : JO X R ρ e T' := PO.imp h fun _ _ _ ⟨G, m, q, S, t, c⟩ => ⟨G, m, q, S, k q m t, c⟩
theorem jom_none : JO X R ρ none (fun q m => q none m) := PO.imp po_none fun _ H _ ⟨G, m, _, S, t, k⟩ => k _ G H m S (Grow.refl _ _ _) t
theorem jom_some {T : M D} (h : JM X R ρ e T) : JO X R ρ (some e) (fun q => T fun d => lift (asI d) q) := PO.imp (po_some h) fun σ H Q ⟨G, m, q, S, t, k⟩ => ⟨G, m, _, S, t, fun v d G1 H1 m1 S1 g1 r1 q1 => by
  obtain ⟨o, ho, q1⟩ := q1
  cases r1 with
  | int i => cases ho; exact ⟨i, rfl, k _ G1 H1 m1 S1 g1 q1⟩
  | _ => cases ho⟩
theorem jo_none : JO X R ρ none (lift (some none)) := jom_none.imp fun _ _ => lift_some'
theorem jo_some {o : Option D} (h : JE X R ρ e o) : JO X R ρ (some e) (lift (o.bind asI)) := (jom_some h).imp fun _ _ => lift1
theorem jm_slice {T : M D} {Tl Th : M (Option Int)} (he : JM X R ρ e T) (hl : JO X R ρ lo Tl) (hh : JO X R ρ hi Th) : JM X R ρ (.Subscript e (.Slice lo hi none p2) pos) (fun q => T fun d => Tl fun l => Th fun u => lift (dCut d l u) q) := by
  refine PE.imp (pe_slice (sl_list.or (sl_tupA.or sl_str)) he hl hh) fun σ H Q ⟨G, m, q, S, t, k⟩ => ⟨G, m, _, S, t, fun v d G1 H1 m1 S1 g1 r1 q1 => ⟨G1, m1, _, S1, q1, fun l G2 H2 m2 S2 g2 q2 => ⟨G2, m2, _, S2, q2, fun u G3 H3 m3 S3 g3 q3 => ?_⟩⟩⟩
  obtain ⟨z, hz, q3⟩ := q3
  have r3 := (r1.mono g2.gg).mono g3.gg
  have g := (g1.trans S1.vh g2).trans S2.vh g3
  cases r3 with
  | @lst p vs ds hp r =>
    cases hz
    refine .inl ⟨p, vs, rfl, SqL.of (S3.gh _ _ hp), fun q' hq => ?_⟩
    obtain ⟨g4, s4⟩ := grow_new S3.gh hq (.lst (cutV vs l u))
    obtain ⟨S4, g4'⟩ := S3.growS g4 s4
    exact k _ _ _ _ m3 S4 (g.trans S3.vh g4') (.lst upd_same ((r.cut l u).mono g4.gg)) q3
  | @tup p vs ds hp r =>
    cases hz
    have rl := r.length
    refine .inr (.inl ⟨p, vs, rfl, SqT.of (S3.gh _ _ hp), fun ⟨h1, h2⟩ => ?_, fun _ q' hq => ?_⟩)
    · rw [rl] at h1 h2
      rw [cutD_all h1 h2] at q3
      exact k _ _ G3 H3 m3 S3 g (.tup hp r) q3
    · obtain ⟨g4, s4⟩ := grow_new S3.gh hq (.tup (cutV vs l u))
      obtain ⟨S4, g4'⟩ := S3.growS g4 s4
      exact k _ _ _ _ m3 S4 (g.trans S3.vh g4') (.tup upd_same ((r.cut l u).mono g4.gg)) q3
  | str z =>
    simp only [dCut, Option.ite_none_right_eq_some, Option.some.injEq] at hz
    obtain ⟨hz, rfl⟩ := hz
    exact .inr (.inr ⟨z, rfl, hz, k _ _ G3 H3 m3 S3 g (.str _) q3⟩)
  | _ => cases hz
theorem je_slice {oe : Option D} {ol oh : Option (Option Int)} (he : JE X R ρ e oe) (hl : JO X R ρ lo (lift ol)) (hh : JO X R ρ hi (lift oh)) : JE X R ρ (.Subscript e (.Slice lo hi none p2) pos) (slO oe ol oh) := (jm_slice he hl hh).imp fun q m h => by
  obtain ⟨d, h1, h2⟩ := lift1 h
  obtain ⟨l, h3, h4⟩ := lift1 h2
  exact ⟨d, h1, l, h3, lift1 h4⟩
/-! ### -x -/
def dNeg : D → Option D
  | .int i => some (.int (-i))
  | _ => none
theorem jm_neg {T : M D} (h : JM X R ρ e T) : JM X R ρ (.UnaryOp .USub e pos) (fun q => T fun d => lift (dNeg d) q) := PE.imp (pe_un un_neg h) fun σ H Q ⟨G, m, q, S, t, k⟩ => ⟨G, m, _, S, t, fun v d G1 H1 m1 S1 g1 r1 q1 => by
  obtain ⟨z, hz, q1⟩ := q1
  cases r1 with
  | int i => cases hz; exact ⟨i, rfl, k _ _ G1 H1 m1 S1 g1 (.int _) q1⟩
  | _ => cases hz⟩
theorem je_neg {o : Option D} (h : JE X R ρ e o) : JE X R ρ (.UnaryOp .USub e pos) (o.bind dNeg) := (jm_neg h).imp fun _ _ => lift1
/-! ### enumerate of a list -/
def enumD : Nat → List D → List D
  | _, [] => []
  | n, d :: ds => .tuple [.int n, d] :: enumD (n + 1) ds
theorem enumD_len : ∀ (n : Nat) (ds : List D), (enumD n ds).length = ds.length
  | _, [] => rfl
  | n, d :: ds => by simp [enumD, enumD_len (n + 1) ds]
theorem enumD_at : ∀ {n i : Nat} {ds : List D} {d : D}, ds[i]? = some d → (enumD n ds)[i]? = some (.tuple [.int (n + i : Nat), d])
  | _, _, [], _, h => by simp at h
  | n, 0, d :: ds, _, h => by simp at h; subst h; rfl
  | n, i + 1, d :: ds, e, h => by
    have := enumD_at (n := n + 1) (i := i) (ds := ds) (d := e) (by simpa using h)
    show (enumD (n + 1) ds)[i]? = _
    rw [this]
    congr 4
    omega
def dEnum : D → Option (List D)
  | .list xs => some (enumD 0 xs)
  | _ => none
theorem walk_e {K : PySem.W.Frag} {G : Hp} {p : Addr} {vs : List V} {ds : List D} (hp : G p = some (.lst vs)) (r : RpL G vs ds) : IsWalk G (Ite K p) (enumD 0 ds) where
  go := fun i H s hi => by
    rw [enumD_len] at hi
    have h1 : i < vs.length := by rw [r.length]; omega
    exact ⟨vs, _, SqL.of (s _ _ hp), List.getElem?_eq_getElem h1⟩
  stop := fun H s => ⟨vs, SqL.of (s _ _ hp), by rw [enumD_len, r.length]; omega⟩
  yld := fun i H x H' s hi y => by
    obtain ⟨T, x, rfl, hT, rfl, f1⟩ := y
    obtain ⟨d, hd, rd⟩ := r.getV (f1 _ (SqL.of (s _ _ hp)))
    exact ⟨_, enumD_at hd, .inr ⟨T, _, _, rfl, hT, rfl, rfl, .cons (by rw [Nat.zero_add]; exact .int _) (.cons rd .nil)⟩⟩
theorem ji_enum {T : M D} {p tpos : Pos} {elts : List Expr} {kk : Nat} (hm : X.mg "enumerate" = none) (ha : JM X R ρ a T) (hg : Gl X "enumerate" := by rfl)
    (hs : starEach [a] X.env = [(false, eval a X.env)] := by rfl) : JI X R ρ (.Tuple elts kk tpos) (.Call (.Name "enumerate" p) [a] [] pos) (fun q => T fun d => lift (dEnum d) q) := by
  refine PI.imp (pi_enum hg hm (ja_cons ha ja_nil hs) hs) fun σ H Rr ⟨G, m, q, S, t, k⟩ => ⟨G, m, (fun ds m => match ds with | [d] => lift (dEnum d) q m | _ => False), S, t, fun vs ds G1 H1 m1 S1 g1 r1 l1 q1 => ?_⟩
  cases r1 with
  | nil => cases l1
  | @cons v vs d ds r1 r2 =>
    cases r2 with
    | cons _ _ => cases l1
    | nil =>
      obtain ⟨es, hd, q1⟩ := q1
      cases r1 with
      | lst h1 ra =>
        cases hd
        exact ⟨_, _, rfl, SqL.of (S1.gh _ _ h1), k _ _ G1 H1 m1 S1 g1 (walk_e h1 ra) q1⟩
      | _ => cases hd
theorem jie_enum {o : Option D} {p tpos : Pos} {elts : List Expr} {kk : Nat} (hm : X.mg "enumerate" = none) (ha : JE X R ρ a o) (hg : Gl X "enumerate" := by rfl)
    (hs : starEach [a] X.env = [(false, eval a X.env)] := by rfl) : JIE X R ρ (.Tuple elts kk tpos) (.Call (.Name "enumerate" p) [a] [] pos) (C1 dEnum o) := (ji_enum hm ha hg hs).imp fun _ _ => lift1
end
theorem wk_ex {S α : Type} {ρ : List Cell} {env : S → List Cell} {kk : S → Option α} (s : S) (w : Wk ρ (env s)) : ∃ s', Wk ρ (env s') ∧ kk s = kk s' := ⟨s, w, rfl⟩

/-! ### loops with a break -/
section
variable {α S : Type} {X : Cx} {R : Res} {rk : RK α} {ρ : List Cell} {st : Stmt} {rest body A B' : List Stmt} {κ : KtE α} {e c tg iter : Expr} {pos : Pos} {env : S → List Cell} {s0 : S} {k : S → Option α}
theorem brk_key (hr : ∀ s, JKE X R rk (env s) rest κ (k s)) (ρ' : List Cell) (o : Option α) (h : ∃ s', Wk ρ' (env s') ∧ o = k s') : JKE X R rk ρ' rest κ o := by
  obtain ⟨s', w, e⟩ := h
  subst e
  exact (hr s').weak w
def KtLB {S α : Type} (env : S → List Cell) (kk k : S → Option α) : KtE α := KtLE env kk fun ρ' o => ∃ s', Wk ρ' (env s') ∧ o = k s'
theorem jke_for1J {oi : Option (List D)} {i n : Nat} {bodyO : (S → Option α) → S → D → (S → Option α) → Option α} (B : Bx X n) (hi : JIE X R ρ tg iter oi) (hg : JG X R tg [i] (bd1 i)) (w0 : Wk ρ (env s0))
    (hb : ∀ (k' : S → Option α) (s : S) (d : D) (kk : S → Option α), JKE X R rk ((env s).set i (.dat d)) body (KtLB env kk k') (bodyO k' s d kk)) (hr : ∀ s, JKE X R rk (env s) rest κ (k s)) (hs : ∀ x, foldedSetIterable iter X.env x = pure x := by intro _; rfl) :
    JKE X R rk ρ (.For tg iter body [] pos :: rest) κ (joinO k fun k' => oi.bind fun ds => forO (bodyO k') ds s0 k') :=
  jke_for1 (env := env) (s0 := s0) B hi hg w0 (fun s d kk => (hb k s d kk).kmono (fun _ _ h => h) (fun ρ' o h => brk_key hr ρ' o h) fun _ _ h => h) hr hs
theorem jke_for2J {oi : Option (List D)} {i j n : Nat} {bodyO : (S → Option α) → S → D → D → (S → Option α) → Option α} (B : Bx X n) (hi : JIE X R ρ tg iter oi) (hg : JG X R tg [i, j] (bdT [i, j])) (w0 : Wk ρ (env s0))
    (hb : ∀ (k' : S → Option α) (s : S) (d e : D) (kk : S → Option α), JKE X R rk (((env s).set i (.dat d)).set j (.dat e)) body (KtLB env kk k') (bodyO k' s d e kk)) (hr : ∀ s, JKE X R rk (env s) rest κ (k s)) (hs : ∀ x, foldedSetIterable iter X.env x = pure x := by intro _; rfl) :
    JKE X R rk ρ (.For tg iter body [] pos :: rest) κ (joinO k fun k' => oi.bind fun ds => forO (fun s d kk => un2 d fun x y => bodyO k' s x y kk) ds s0 k') :=
  jke_for2 (env := env) (s0 := s0) B hi hg w0 (fun s d e kk => (hb k s d e kk).kmono (fun _ _ h => h) (fun ρ' o h => brk_key hr ρ' o h) fun _ _ h => h) hr hs
theorem jke_whileJ {cO : S → Option Bool} {bodyO : (S → Option α) → S → (S → Option α) → Option α} {n l : Nat} (B : Bx X l) (w0 : Wk ρ (env s0)) (hc : ∀ s, JTE X R (env s) c (cO s))
    (hb : ∀ (k' : S → Option α) (s : S) (kk : S → Option α), JKE X R rk (env s) body (KtLB env kk k') (bodyO k' s kk)) (hr : ∀ s, JKE X R rk (env s) rest κ (k s)) : JKE X R rk ρ (.While c body [] pos :: rest) κ (joinO k fun k' => whileO cO (bodyO k') n s0 k') :=
  jke_while (env := env) (s0 := s0) B w0 hc (fun s kk => (hb k s kk).kmono (fun _ _ h => h) (fun ρ' o h => brk_key hr ρ' o h) fun _ _ h => h) hr
end
end Dl

set_option Elab.async false
set_option linter.all false
set_option autoImplicit false
set_option maxRecDepth 100000
set_option maxHeartbeats 1000000
namespace Dl
open PySem L2

/-! ### the pen -/
abbrev penL (ca : Addr) (i v : Nat) : HO := .lst [.ref ca, .int i, .int v]
def rPen (pa ca : Addr) (cs : List Int) (ent : Hp) : Res where
  vol := fun a => a = pa
  S := fun G => G ca = some (.lst (cs.map V.int))
  Dy := fun H m => ∃ i v : Nat, H pa = some (penL ca i v) ∧ i ≤ m
  sm := fun e h => e _ _ h
  dm := fun e h => by obtain ⟨i, v, h, l⟩ := h; exact ⟨i, v, by rw [e _ rfl]; exact h, l⟩
  ent := ent
/-- two numbers as one -/
def enc (i v : Nat) : Nat := (i + v) * (i + v) + i
theorem enc_lt {s t a b : Nat} (h : s < t) (ha : a ≤ s) : s * s + a < t * t + b := by
  have h1 : (s + 1) * (s + 1) ≤ t * t := Nat.mul_le_mul h h
  have h2 : (s + 1) * (s + 1) = s * s + s + s + 1 := by simp [Nat.mul_add, Nat.add_mul]; omega
  omega
theorem enc_inj {i v j u : Nat} (h : enc i v = enc j u) : i = j ∧ v = u := by
  unfold enc at h
  rcases Nat.lt_trichotomy (i + v) (j + u) with z | z | z
  · have := enc_lt (a := i) (b := j) z (by omega)
    omega
  · rw [z] at h
    omega
  · have := enc_lt (a := j) (b := i) z (by omega)
    omega
/-- .. its state known: what _law_take itself works with -/
def rTake (pa ca : Addr) (cs : List Int) (ent : Hp) : Res where
  vol := fun a => a = pa
  S := fun G => G ca = some (.lst (cs.map V.int))
  Dy := fun H m => ∃ i v : Nat, m = enc i v ∧ H pa = some (penL ca i v)
  sm := fun e h => e _ _ h
  dm := fun e h => by obtain ⟨i, v, l, h⟩ := h; exact ⟨i, v, l, by rw [e _ rfl]; exact h⟩
  ent := ent
def penD (cs : List Int) (i v : Nat) : List D := [.list (cs.map PyData.int), .int i, .int v]
def penAt (cs : List Int) (j : Nat) : M D := fun q m => ∃ i v d, m = enc i v ∧ (penD cs i v)[j]? = some d ∧ q d m

section
variable {X : Cx} {ρ : List Cell} {e a b c : Expr} {es : List Expr} {pos p p2 : Pos} {x y : Str} {pa ca : Addr} {cs : List Int} {ent : Hp} {k n : Nat}
/-- pen[j], read -/
theorem jm_pix {j : Nat} {j2} (i : Nat) (hj : j < 3) (hρ : ρ[i]? = some (.raw (.ref pa)) := by rfl) (hN : X.N[i]? = some x := by rfl) (hv : Vis X.env.scope x := by first | exact Or.inl rfl | exact Or.inr (Or.inl rfl) | exact Or.inr (Or.inr rfl))
    (hd : (x == ("__debug__" : Str)) = false := by decide) (hcd : (x == ("__classdict__" : Str)) = false := by decide) : JM X (rTake pa ca cs ent) ρ (.Subscript (.Name x p) (.Constant (.int j) j2 p2) pos) (penAt cs j) := by
  refine PE.imp (pe_ix or_ix (pe_var (i := i) hN hv hd hcd) pe_int (fun _ _ => rfl)) fun σ H Q ⟨G, m, q, S, t, k⟩ => ?_
  obtain ⟨i', v', d, hm, hd', hq⟩ := t
  have e1 : σ[i]? = some (some (.ref pa)) := S.cell i _ hρ
  obtain ⟨i2, v2, hm2, hp⟩ := S.jd
  rw [hm] at hm2
  obtain ⟨rfl, rfl⟩ := enc_inj hm2
  refine ⟨_, e1, ?_⟩
  have key : ∃ v, [V.ref ca, V.int i', V.int v'][j]? = some v ∧ Rp G v d := by
    match j, hj, hd' with
    | 0, _, hd' => cases hd'; exact ⟨_, rfl, .lst S.js RpL.ofInts⟩
    | 1, _, hd' => cases hd'; exact ⟨_, rfl, .int _⟩
    | 2, _, hd' => cases hd'; exact ⟨_, rfl, .int _⟩
  obtain ⟨v, hv', r⟩ := key
  refine .inl ⟨pa, _, (j : Int), v, rfl, rfl, SqL.of hp, ?_, k v d G H m S (Grow.refl _ _ _) r hq⟩
  match j, hj, hv' with
  | 0, _, hv' => exact hv'
  | 1, _, hv' => exact hv'
  | 2, _, hv' => exact hv'
variable {α : Type} {rk : RK α} {rest : List Stmt} {κ : Kt} {q : α → Nat → Prop}
/-- what pen[1] = e, pen[2] = e make of the state -/
def penSet (j : Nat) (d : D) (k : Nat → Prop) (m : Nat) : Prop := ∃ i v n : Nat, m = enc i v ∧ d = .int n ∧ ((j = 1 ∧ k (enc n v)) ∨ (j = 2 ∧ k (enc i n)))
theorem jk_pset {j : Nat} {j2} {T : M D} {kk : Nat → Prop} (i : Nat) (he : JM X (rTake pa ca cs ent) ρ e T) (hr : JK X (rTake pa ca cs ent) rk ρ rest κ q kk) (hρ : ρ[i]? = some (.raw (.ref pa)) := by rfl) (hN : X.N[i]? = some x := by rfl)
    (hv : Vis X.env.scope x := by first | exact Or.inl rfl | exact Or.inr (Or.inl rfl) | exact Or.inr (Or.inr rfl)) (hd : (x == ("__debug__" : Str)) = false := by decide) (hcd : (x == ("__classdict__" : Str)) = false := by decide)
    (ha : ∀ v, assign (.Subscript (.Name x p) (.Constant (.int j) j2 p2) pos) X.env v = (do let ov ← holding [v] (eval (.Name x p) X.env); let iv ← holding [v, ov] (eval (.Constant (.int j) j2 p2) X.env); standAt pos; holding [v, ov, iv] (setItem ov iv v); release [v, ov, iv] []) := by intro _; rfl)
    {spos : Pos} (hs : swapsWithSole [.Subscript (.Name x p) (.Constant (.int j) j2 p2) pos] e spos.line X.env = pure false := by rfl) (hw : swappedStores [.Subscript (.Name x p) (.Constant (.int j) j2 p2) pos] e X.env = pure none := by rfl)
    (h1 : (assignEach [.Subscript (.Name x p) (.Constant (.int j) j2 p2) pos] X.env).map (·.2) = [assign (.Subscript (.Name x p) (.Constant (.int j) j2 p2) pos) X.env] := by rfl) :
    JK X (rTake pa ca cs ent) rk ρ (.Assign [.Subscript (.Name x p) (.Constant (.int j) j2 p2) pos] e spos :: rest) κ q (T fun d => penSet j d kk) := by
  refine PSs.imp (pss_cons (ps_asg he (pg_sub (pe_var (i := i) hN hv hd hcd) pe_int set_list ha) hs hw h1) hr) fun Dn σ H ⟨Gb, G, m, S, g, t, ls⟩ => ⟨G, m, _, S, t, fun v d G1 H1 m1 S1 g1 r1 q1 => ?_⟩
  obtain ⟨i', v', n, hm, rfl, q1⟩ := q1
  cases r1
  have e1 : σ[i]? = some (some (.ref pa)) := S1.cell i _ hρ
  obtain ⟨i2, v2, hm2, hp⟩ := S1.jd
  rw [hm] at hm2
  obtain ⟨rfl, rfl⟩ := enc_inj hm2
  have gp : G1 pa = none := S1.vg pa rfl
  have key : ∀ (i3 v3 : Nat), kk (enc i3 v3) → tK (rTake pa ca cs ent) rk ρ κ q kk Dn σ (upd H1 pa (penL ca i3 v3)) := fun i3 v3 hk => by
    have g2 : Grow (rTake pa ca cs ent).vol G1 H1 G1 (upd H1 pa (penL ca i3 v3)) := ⟨Same.refl _, fun a o nv h => by rw [upd_ne fun z : a = pa => nv z]; exact h, fun a ga _ => ga⟩
    have S2 : Sit (rTake pa ca cs ent) σ ρ G1 (upd H1 pa (penL ca i3 v3)) (enc i3 v3) := S1.grow g2 (fun a o h => by rw [upd_ne (ne_of_none h gp)]; exact S1.gh a o h) (fun a va => by
      have va : a = pa := va
      subst va
      rw [upd_same]; exact fun z => nomatch z) ⟨i3, v3, rfl, upd_same⟩
    exact ⟨Gb, G1, _, S2, (S.tr g g1).trans S1.vh g2, hk, ls.sm g1.gg⟩
  refine ⟨.ref pa, e1, ?_⟩
  rcases q1 with ⟨rfl, hk⟩ | ⟨rfl, hk⟩
  · exact ⟨pa, [.ref ca, .int i', .int v'], 1, 1, rfl, rfl, hp, rfl, key n v' hk⟩
  · exact ⟨pa, [.ref ca, .int i', .int v'], 2, 2, rfl, rfl, hp, rfl, key i' n hk⟩
end

/-! ### defs that draw -/
def spM {α : Type} (rk : RK α) (n : Nat) (F : List D → M α) : Sp := fun vs H Q _ => ∃ pa ca cs G m ws ds q, vs = .ref pa :: ws ∧ Sat (rPen pa ca cs H) G H m ∧ RpL G ws ds ∧ ds.length = n ∧ F ds q m ∧
  ∀ v a G' H' m', Sat (rPen pa ca cs H) G' H' m' → Grow (fun a => a = pa) G H G' H' → rk.rel H G' H' v a → q a m' → Q v H'
def drawM {α : Type} (Ts : M (List D)) (F : List D → M α) : M α := fun q => Ts fun ds => F ds q
section
variable {X : Cx} {ρ : List Cell} {e a b c : Expr} {es : List Expr} {pos p p2 : Pos} {x y : Str} {pa ca : Addr} {cs : List Int} {ent : Hp} {k n i : Nat}
theorem Sat.atEnt {pa ca : Addr} {cs : List Int} {ent : Hp} {G H : Hp} {m : Nat} (S : Sat (rPen pa ca cs ent) G H m) : Sat (rPen pa ca cs H) G H m := ⟨S.gh, S.vg, S.vh, S.js, S.jd, fun _ h => h⟩
theorem jm_pn {F : List D → M D} {Ts : M (List D)} (i : Nat) (h : Kn X.prog X.w X.K X.mg X.base x k (spM .dat n F)) (B : Bx X k) (ha : JA X (rPen pa ca cs ent) ρ es n Ts) (hρ : ρ[i]? = some (.raw (.ref pa)) := by rfl) (hN : X.N[i]? = some y := by rfl)
    (hv : Vis X.env.scope y := by first | exact Or.inl rfl | exact Or.inr (Or.inl rfl) | exact Or.inr (Or.inr rfl)) (hd : (y == ("__debug__" : Str)) = false := by decide) (hcd : (y == ("__classdict__" : Str)) = false := by decide) (hg : Gl X x := by rfl)
    (hdb : (x == ("__debug__" : Str)) = false := by decide) (he : starEach (.Name y p2 :: es) X.env = (false, eval (.Name y p2) X.env) :: starEach es X.env := by rfl) (hpl : (backTo pos (starEach es X.env)).any (·.1) = false := by rfl) :
    JM X (rPen pa ca cs ent) ρ (.Call (.Name x p) (.Name y p2 :: es) [] pos) (drawM Ts F) := by
  refine PE.imp (pe_kn h B (pa_cons (pe_var (i := i) hN hv hd hcd) ha he) hg hdb he hpl) fun σ H Q ⟨G, m, q, S, t, k⟩ => ⟨_, S.cell i _ hρ, G, m, _, S, t, fun vs ds G1 H1 m1 S1 g1 r1 l1 q1 => ?_⟩
  refine ⟨pa, ca, cs, G1, m1, vs, ds, q, rfl, Sat.atEnt S1.toSat, r1, l1, q1, fun v d G2 H2 m2 S2 g2 r2 q2 => ?_⟩
  exact k v d G2 H2 m2 (S1.grow (R := rPen pa ca cs ent) g2 S2.gh S2.vh S2.jd) (g1.trans S1.vh g2) r2 q2
theorem jl_pn {F : List D → M (List D)} {Ts : M (List D)} (i : Nat) (h : Kn X.prog X.w X.K X.mg X.base x k (spM .lst n F)) (B : Bx X k) (ha : JA X (rPen pa ca cs ent) ρ es n Ts) (hρ : ρ[i]? = some (.raw (.ref pa)) := by rfl) (hN : X.N[i]? = some y := by rfl)
    (hv : Vis X.env.scope y := by first | exact Or.inl rfl | exact Or.inr (Or.inl rfl) | exact Or.inr (Or.inr rfl)) (hd : (y == ("__debug__" : Str)) = false := by decide) (hcd : (y == ("__classdict__" : Str)) = false := by decide) (hg : Gl X x := by rfl)
    (hdb : (x == ("__debug__" : Str)) = false := by decide) (he : starEach (.Name y p2 :: es) X.env = (false, eval (.Name y p2) X.env) :: starEach es X.env := by rfl) (hpl : (backTo pos (starEach es X.env)).any (·.1) = false := by rfl) :
    JL X (rPen pa ca cs ent) ρ (.Call (.Name x p) (.Name y p2 :: es) [] pos) (drawM Ts F) := by
  refine PE.imp (pe_kn h B (pa_cons (pe_var (i := i) hN hv hd hcd) ha he) hg hdb he hpl) fun σ H Q ⟨G, m, q, S, t, k⟩ => ⟨_, S.cell i _ hρ, G, m, _, S, t, fun vs ds G1 H1 m1 S1 g1 r1 l1 q1 => ?_⟩
  refine ⟨pa, ca, cs, G1, m1, vs, ds, q, rfl, Sat.atEnt S1.toSat, r1, l1, q1, fun v d G2 H2 m2 S2 g2 r2 q2 => ?_⟩
  obtain ⟨l, ws, rfl, hl, gl, hl2, r⟩ := r2
  exact k l ws d G2 H2 m2 (S1.grow (R := rPen pa ca cs ent) g2 S2.gh S2.vh S2.jd) (g1.trans S1.vh g2) (free_of g1 S1.vh hl) gl hl2 r q2
end
/-! ### the body of such a def -/
def startP (N : List Str) (pa : Addr) (ds : List D) : List Cell := .raw (.ref pa) :: (ds.map Cell.dat ++ List.replicate (N.length - (ds.length + 1)) Cell.no)
theorem sit_startP {N : List Str} {R : Res} {pa : Addr} {vs : List V} {ds : List D} {G H : Hp} {m : Nat} (S : Sat R G H m) (r : RpL G vs ds) : Sit R (L2.start N (.ref pa :: vs)) (startP N pa ds) G H m := by
  have hl := r.length
  refine ⟨S, by simp [L2.start, startP, hl], fun i c e => ?_, fun i j es fs l e1 _ _ _ => ?_⟩
  · cases i with
    | zero => cases e; rfl
    | succ i =>
      have e : (ds.map Cell.dat ++ List.replicate (N.length - (ds.length + 1)) Cell.no)[i]? = some c := e
      by_cases hi : i < ds.length
      · rw [List.getElem?_append_left (by simpa using hi), List.getElem?_map, List.getElem?_eq_getElem hi] at e
        cases e
        obtain ⟨v, hv, rv⟩ := r.get (List.getElem?_eq_getElem hi)
        refine ⟨v, ?_, rv⟩
        unfold L2.start
        rw [List.getElem?_append_left (by simp; omega), List.getElem?_map]
        show (((V.ref pa :: vs)[i + 1]?).map some) = _
        rw [List.getElem?_cons_succ, hv]
        rfl
      · rw [List.getElem?_append_right (by simpa using hi), List.getElem?_replicate] at e
        split at e
        · cases e; trivial
        · cases e
  · cases i with
    | zero => cases e1
    | succ i =>
      have e1 : (ds.map Cell.dat ++ List.replicate (N.length - (ds.length + 1)) Cell.no)[i]? = some (.own es) := e1
      by_cases hi : i < ds.length
      · rw [List.getElem?_append_left (by simpa using hi), List.getElem?_map, List.getElem?_eq_getElem hi] at e1
        cases e1
      · rw [List.getElem?_append_right (by simpa using hi), List.getElem?_replicate] at e1
        split at e1 <;> cases e1
section
variable {α : Type} {P : Program} {w : World} {K : PySem.W.Frag} {mg : Str → Option Value} {base : Heap}
theorem kn_pen {rk : RK α} [Falls rk] {F : List D → M α} {x : Str} {st : Stmt} {f : Addr} {fd : FuncData} {N ps : List Str} {k n : Nat} (Fn : Fun K x x st f fd) (mx : mg x = some (.ref f)) (bs : Binds K fd ps []) (Sc : FnScope N ps (defScope st)) (hn : ps.length = n + 1)
    (body : ∀ (cdv : Value) (A : Around) (outer : List Env) (s : Shared) (H : Hp) (E : XK), Bx (cxG P w K mg base N x st f cdv A outer s H E) k → ∀ (pa ca : Addr) (cs : List Int) (ds : List D), ds.length = n → ∀ q : α → Nat → Prop,
      JK (cxG P w K mg base N x st f cdv A outer s H E) (rPen pa ca cs H) rk (startP N pa ds) (defBody st) (KtF rk q) q (F ds q)) : Kn P w K mg base x (k + 1) (spM rk n F) := by
  refine ⟨f, fd, ps, fn_g Fn Sc (fun vs H Q E h => ?_) (fun cdv A outer s H vs Q E hg hr h => ?_), mx, Fn.kp, bs⟩
  · obtain ⟨pa, ca, cs, G, m, ws, ds, q, rfl, S, r, l, _⟩ := h
    simp [r.length, l, hn]
  · obtain ⟨pa, ca, cs, G, m, ws, ds, q, rfl, S, r, l, hF, k⟩ := h
    have B : Bx (cxG P w K mg base N x st f cdv A outer s H E) _ := ⟨hr, hg, rfl, Sc.nd, PassesOwn.never⟩
    have rt : Rt (rPen pa ca cs H) rk G q Q := fun v a G' H' m' S' g' rr hq => k v a G' H' m' S' g' rr hq
    refine ⟨_, (body cdv A outer s H E B pa ca cs ds l q).nox, G, G, m, sit_startP S r, Grow.refl _ _ _, hF, rt, ?_, ?_, ?_⟩
    · intro ρ' b σ' G' H' m' h hb S' g' _
      exact Falls.ok (R := rPen pa ca cs H) (Gb := G) rt h hb S' g'
    · intro _ _ _ _ _ _ h; exact h.elim
    · intro _ _ _ _ _ _ h; exact h.elim
/-- _law_take: its own body, the pen's state known; then the promise to all others -/
theorem kn_take {F : List D → M D} {F0 : List Int → D → M D} {x : Str} {st : Stmt} {f : Addr} {fd : FuncData} {N ps : List Str} {k : Nat} (Fn : Fun K x x st f fd) (mx : mg x = some (.ref f)) (bs : Binds K fd ps []) (Sc : FnScope N ps (defScope st)) (hn : ps.length = 2)
    (law : ∀ (cs : List Int) (d : D) (q : D → Nat → Prop) (m i v : Nat), F [d] q m → i ≤ m → F0 cs d (fun a n => ∃ i' v' m', n = enc i' v' ∧ i' ≤ m' ∧ q a m') (enc i v))
    (body : ∀ (cdv : Value) (A : Around) (outer : List Env) (s : Shared) (H : Hp) (E : XK), Bx (cxG P w K mg base N x st f cdv A outer s H E) k → ∀ (pa ca : Addr) (cs : List Int) (d : D), ∀ q : D → Nat → Prop,
      JK (cxG P w K mg base N x st f cdv A outer s H E) (rTake pa ca cs H) .dat (startP N pa [d]) (defBody st) (KtF .dat q) q (F0 cs d q)) : Kn P w K mg base x (k + 1) (spM .dat 1 F) := by
  refine ⟨f, fd, ps, fn_g Fn Sc (fun vs H Q E h => ?_) (fun cdv A outer s H vs Q E hg hr h => ?_), mx, Fn.kp, bs⟩
  · obtain ⟨pa, ca, cs, G, m, ws, ds, q, rfl, S, r, l, _⟩ := h
    simp [r.length, l, hn]
  · obtain ⟨pa, ca, cs, G, m, ws, ds, q, rfl, S, r, l, hF, k⟩ := h
    have B : Bx (cxG P w K mg base N x st f cdv A outer s H E) _ := ⟨hr, hg, rfl, Sc.nd, PassesOwn.never⟩
    match ds, l with
    | [d], _ =>
      obtain ⟨i, v, hp, hi⟩ := S.jd
      have S0 : Sat (rTake pa ca cs H) G H (enc i v) := ⟨S.gh, S.vg, S.vh, S.js, ⟨i, v, rfl, hp⟩, S.en⟩
      have rt : Rt (rTake pa ca cs H) .dat G (fun a n => ∃ i' v' m', n = enc i' v' ∧ i' ≤ m' ∧ q a m') Q := fun v a G' H' m' S' g' rr hq => by
        obtain ⟨i', v', m2, rfl, hi', hq⟩ := hq
        obtain ⟨i3, v3, h3, hp3⟩ := S'.jd
        obtain ⟨rfl, rfl⟩ := enc_inj h3
        exact k v a G' H' m2 ⟨S'.gh, S'.vg, S'.vh, S'.js, ⟨i', v', hp3, hi'⟩, S'.en⟩ g' rr hq
      refine ⟨_, (body cdv A outer s H E B pa ca cs d _).nox, G, G, enc i v, sit_startP S0 r, Grow.refl _ _ _, law cs d q m i v hF hi, rt, ?_, ?_, ?_⟩
      · intro ρ' b σ' G' H' m' h hb S' g' _
        exact Falls.ok (R := rTake pa ca cs H) (Gb := G) rt h hb S' g'
      · intro _ _ _ _ _ _ h; exact h.elim
      · intro _ _ _ _ _ _ h; exact h.elim
end
end Dl

set_option Elab.async false
set_option linter.all false
set_option autoImplicit false
set_option maxRecDepth 100000
set_option maxHeartbeats 1000000
namespace Dl
open PySem L2

/-! ### drawing code: the words of its meanings -/
def nilM : M (List D) := fun q m => q [] m
def consM (T : M D) (Ts : M (List D)) : M (List D) := fun q m => T (fun d m1 => Ts (fun ds m2 => q (d :: ds) m2) m1) m
def tupM (Ts : M (List D)) : M D := fun q => Ts fun ds => q (.tuple ds)
def lstM (Ts : M (List D)) : M D := fun q => Ts fun ds => q (.list ds)
def appM {β : Type} (Ts : M (List D)) (F : List D → Option β) : M β := fun q => Ts fun ds => lift (F ds) q
def bindM {β : Type} (T : M D) (f : D → Option β) : M β := fun q => T fun d m => lift (f d) q m
def notM (T : M Bool) : M Bool := fun q => T fun b => q (!b)
def andM (Ta Tb : M Bool) : M Bool := fun q m => Ta (fun c m1 => if c = true then Tb q m1 else q false m1) m
def orM (Ta Tb : M Bool) : M Bool := fun q m => Ta (fun c m1 => if c = true then q true m1 else Tb q m1) m
def ifM {β : Type} (Tc : M Bool) (Ta Tb : M β) : M β := fun q m => Tc (fun t m1 => if t = true then Ta q m1 else Tb q m1) m
def ifK (Tc : M Bool) (A B : Nat → Prop) : Nat → Prop := Tc fun t m => if t = true then A m else B m
def appK (ds : List D) (T : M D) (k : List D → Nat → Prop) : Nat → Prop := T fun d m => ds.length < sizeLine ∧ k (ds ++ [d]) m
def augIK (d : D) (T : M D) (k : D → Nat → Prop) : Nat → Prop := T fun y m => ∃ a b, d = .int a ∧ y = .int b ∧ k (.int (a + b)) m
def augLK (ds : List D) (T : M (List D)) (k : List D → Nat → Prop) : Nat → Prop := T fun es m => ds.length + es.length ≤ sizeLine ∧ k (ds ++ es) m
def setIK (ds : List D) (T Ti : M D) (k : List D → Nat → Prop) : Nat → Prop := T fun d => Ti fun z m => ∃ n j, z = .int n ∧ ixN ds.length n = some j ∧ k (ds.set j d) m
def lendM (T : M D) : M D := fun q => T fun d m => imm d = true ∧ q d m
def lendLM (T : M (List D)) : M (List D) := fun q => T fun d m => immL d = true ∧ q d m
def consDM (T : M D) (Ts : M (List Cell)) : M (List Cell) := fun q m => T (fun d m1 => Ts (fun cs m2 => q (.dat d :: cs) m2) m1) m
def consLM (T : M (List D)) (Ts : M (List Cell)) : M (List Cell) := fun q m => T (fun d m1 => Ts (fun cs m2 => q (.own d :: cs) m2) m1) m
def nilCM : M (List Cell) := fun q m => q [] m
def onDM (k : D → Nat → Prop) : Cell → Nat → Prop
  | .dat d => k d
  | _ => fun _ => False
def onLM (k : List D → Nat → Prop) : Cell → Nat → Prop
  | .own d => k d
  | _ => fun _ => False
def cel2M (k : Cell → Cell → Nat → Prop) : List Cell → Nat → Prop
  | [c, d] => k c d
  | _ => fun _ => False
def cel3M (k : Cell → Cell → Cell → Nat → Prop) : List Cell → Nat → Prop
  | [c, d, e] => k c d e
  | _ => fun _ => False
def un2T {β : Type} (d : D) (f : D → D → M β) : M β := fun q m => match d with
  | .tuple [a, b] => f a b q m
  | _ => False
section
variable {X : Cx} {R : Res} {ρ : List Cell} {e a b c : Expr} {es rest' : List Expr} {pos : Pos} {n : Nat}
theorem jam_nil : JA X R ρ [] 0 nilM := ja_nil
theorem jam_cons {T : M D} {Ts : M (List D)} (ha : JM X R ρ e T) (hs : JA X R ρ es n Ts) (hst : starEach (e :: es) X.env = (false, eval e X.env) :: starEach es X.env := by rfl) : JA X R ρ (e :: es) (n + 1) (consM T Ts) := ja_cons ha hs hst
theorem jm_tupM {Ts : M (List D)} {x1} (h : JA X R ρ es n Ts) (hn : n ≤ 1000 := by decide) : JM X R ρ (.Tuple es x1 pos) (tupM Ts) := jm_tup h hn
theorem jl_lstM {Ts : M (List D)} (h : JA X R ρ es n Ts) (hn : n ≤ 1000 := by decide) : JL X R ρ (.List es pos) Ts := jl_lst h hn
theorem JL.jmM {T : M (List D)} (h : JL X R ρ e T) : JM X R ρ e (lstM T) := h.jm
theorem jm_opM {op : Operator} {r : R2} {f : D → D → Option D} {Ta Tb : M D} (hr : OpR X (binaryOp op) r) (ho : OpD r f) (ha : JM X R ρ a Ta) (hb : JM X R ρ b Tb) : JM X R ρ (.BinOp a op b pos) (op2 f Ta Tb) := jm_op hr ho ha hb
theorem jm_cmpM {op : CmpOp} {r : R2} {f : D → D → Option D} {Ta Tb : M D} (hr : OpR X (compareOp op) r) (ho : OpD r f) (ha : JM X R ρ a Ta) (hb : JM X R ρ b Tb) (hm : behindInMarks op b = false) : JM X R ρ (.Compare a [op] [b] pos) (op2 f Ta Tb) := jm_cmp hr ho ha hb hm
theorem jt_cmpM {op : CmpOp} {r : R2} {f : D → D → Option D} {Ta Tb : M D} (hr : OpR X (compareOp op) r) (ho : OpD r f) (ha : JM X R ρ a Ta) (hb : JM X R ρ b Tb) (hm : behindInMarks op b = false) : JT X R ρ (.Compare a [op] [b] pos) (bindM (op2 f Ta Tb) asB) := jt_cmp hr ho ha hb hm
theorem jt_truM {T : M D} (h : JM X R ρ e T) (he : ∀ whole, isTrue e X.env whole = (do let v ← whole; standAt e.pos; holding [v] (truthy v)) := by intro _; rfl) : JT X R ρ e (bindM T asT) := jt_tru h he
theorem jm_ixM {Ta Tb : M D} (ha : JM X R ρ a Ta) (hb : JM X R ρ b Tb) (hs : PlainIx b := by exact fun _ _ => rfl) : JM X R ρ (.Subscript a b pos) (op2 dIx Ta Tb) := jm_ix or_ix od_ix ha hb hs
theorem jt_notM {T : M Bool} (ha : JT X R ρ a T) : JT X R ρ (.UnaryOp .Not a pos) (notM T) := jt_not ha
theorem jw_and1M {T : M Bool} (ha : JT X R ρ a T) : JW X R ρ (.BoolOp .And [a] pos) T := pw_and1 ha
theorem jw_or1M {T : M Bool} (ha : JT X R ρ a T) : JW X R ρ (.BoolOp .Or [a] pos) T := pw_or1 ha
theorem jw_andM {Ta Tb : M Bool} (ha : JT X R ρ a Ta) (hb : JW X R ρ (.BoolOp .And (b :: rest') pos) Tb) : JW X R ρ (.BoolOp .And (a :: b :: rest') pos) (andM Ta Tb) := jw_and ha hb
theorem jw_orM {Ta Tb : M Bool} (ha : JT X R ρ a Ta) (hb : JW X R ρ (.BoolOp .Or (b :: rest') pos) Tb) : JW X R ρ (.BoolOp .Or (a :: b :: rest') pos) (orM Ta Tb) := jw_or ha hb
theorem jm_ifM {Tc : M Bool} {Ta Tb : M D} (hc : JT X R ρ c Tc) (ha : JM X R ρ a Ta) (hb : JM X R ρ b Tb) : JM X R ρ (.IfExp c a b pos) (ifM Tc Ta Tb) := jm_if hc ha hb
theorem jl_ifM {Tc : M Bool} {Ta Tb : M (List D)} (hc : JT X R ρ c Tc) (ha : JL X R ρ a Ta) (hb : JL X R ρ b Tb) : JL X R ρ (.IfExp c a b pos) (ifM Tc Ta Tb) := jl_if hc ha hb
theorem jm_negM {T : M D} (h : JM X R ρ e T) : JM X R ρ (.UnaryOp .USub e pos) (bindM T dNeg) := jm_neg h
theorem JM.lendM' {T : M D} (h : JM X R (brw ρ) e T) : JM X R ρ e (lendM T) := JM.lend h
theorem JL.lendM' {T : M (List D)} (h : JL X R (brw ρ) e T) : JL X R ρ e (lendLM T) := JL.lend h
variable {x : Str} {id T : String} {p : Pos} {r : List V → Hp → VK → Prop} {k : Nat}
theorem jm_callBM {F : List D → Option D} {Ts : M (List D)} (hr : CallR X (.builtin id) r) (hF : CallD r F) (hm : X.mg x = none) (hv : bootBuiltins x = some (.builtin id)) (ha : JA X R ρ (e :: es) n Ts) (hg : Gl X x := by rfl) (hn : x ≠ "__name__" := by decide) (hdb : (x == ("__debug__" : Str)) = false := by decide)
    (he : starEach (e :: es) X.env = (false, eval e X.env) :: starEach es X.env := by rfl) (hpl : (backTo pos (starEach es X.env)).any (·.1) = false := by rfl) : JM X R ρ (.Call (.Name x p) (e :: es) [] pos) (appM Ts F) := jm_callB hr hF hm hv ha hg hn hdb he hpl
theorem jm_callTyM {F : List D → Option D} {Ts : M (List D)} (hr : CallR X (.type T) r) (hF : CallD r F) (hm : X.mg x = none) (hv : bootBuiltins x = some (.type T)) (ha : JA X R ρ (e :: es) n Ts) (hg : Gl X x := by rfl) (hn : x ≠ "__name__" := by decide) (hdb : (x == ("__debug__" : Str)) = false := by decide)
    (he : starEach (e :: es) X.env = (false, eval e X.env) :: starEach es X.env := by rfl) (hpl : (backTo pos (starEach es X.env)).any (·.1) = false := by rfl) : JM X R ρ (.Call (.Name x p) (e :: es) [] pos) (appM Ts F) := jm_callTy hr hF hm hv ha hg hn hdb he hpl
theorem jl_callBM {F : List D → Option (List D)} {Ts : M (List D)} (hr : CallR X (.builtin id) r) (hF : CallDL r F) (hm : X.mg x = none) (hv : bootBuiltins x = some (.builtin id)) (ha : JA X R ρ (e :: es) n Ts) (hg : Gl X x := by rfl) (hn : x ≠ "__name__" := by decide) (hdb : (x == ("__debug__" : Str)) = false := by decide)
    (he : starEach (e :: es) X.env = (false, eval e X.env) :: starEach es X.env := by rfl) (hpl : (backTo pos (starEach es X.env)).any (·.1) = false := by rfl) : JL X R ρ (.Call (.Name x p) (e :: es) [] pos) (appM Ts F) := jl_callB hr hF hm hv ha hg hn hdb he hpl
theorem jl_callTyM {F : List D → Option (List D)} {Ts : M (List D)} (hr : CallR X (.type T) r) (hF : CallDL r F) (hm : X.mg x = none) (hv : bootBuiltins x = some (.type T)) (ha : JA X R ρ (e :: es) n Ts) (hg : Gl X x := by rfl) (hn : x ≠ "__name__" := by decide) (hdb : (x == ("__debug__" : Str)) = false := by decide)
    (he : starEach (e :: es) X.env = (false, eval e X.env) :: starEach es X.env := by rfl) (hpl : (backTo pos (starEach es X.env)).any (·.1) = false := by rfl) : JL X R ρ (.Call (.Name x p) (e :: es) [] pos) (appM Ts F) := jl_callTy hr hF hm hv ha hg hn hdb he hpl
theorem jm_knM {F : List D → Option D} {Ts : M (List D)} (h : Kn X.prog X.w X.K X.mg X.base x k (spR .dat n F)) (B : Bx X k) (ha : JA X R ρ (e :: es) n Ts) (hg : Gl X x := by rfl) (hdb : (x == ("__debug__" : Str)) = false := by decide)
    (he : starEach (e :: es) X.env = (false, eval e X.env) :: starEach es X.env := by rfl) (hpl : (backTo pos (starEach es X.env)).any (·.1) = false := by rfl) : JM X R ρ (.Call (.Name x p) (e :: es) [] pos) (appM Ts F) := jm_kn h B ha hg hdb he hpl
theorem jl_knM {F : List D → Option (List D)} {Ts : M (List D)} (h : Kn X.prog X.w X.K X.mg X.base x k (spR .lst n F)) (B : Bx X k) (ha : JA X R ρ (e :: es) n Ts) (hg : Gl X x := by rfl) (hdb : (x == ("__debug__" : Str)) = false := by decide)
    (he : starEach (e :: es) X.env = (false, eval e X.env) :: starEach es X.env := by rfl) (hpl : (backTo pos (starEach es X.env)).any (·.1) = false := by rfl) : JL X R ρ (.Call (.Name x p) (e :: es) [] pos) (appM Ts F) := jl_kn h B ha hg hdb he hpl
/-! iterators -/
variable {tg : Expr}
theorem ji_seqM {T : M D} (h : JM X R ρ e T) : JI X R ρ tg e (bindM T dItems) := ji_seq h
theorem ji_newM {T : M (List D)} (h : JL X R ρ e T) : JI X R ρ tg e T := ji_new h
theorem ji_range1M {Ta : M D} (hm : X.mg "range" = none) (ha : JM X R ρ a Ta) (hg : Gl X "range" := by rfl) (hs : starEach [a] X.env = [(false, eval a X.env)] := by rfl) : JI X R ρ tg (.Call (.Name "range" p) [a] [] pos) (appM (consM Ta nilM) dRange) := ji_range1 hm (ja_cons ha ja_nil hs) hg hs
theorem ji_range2M {Ta Tb : M D} (hm : X.mg "range" = none) (ha : JM X R ρ a Ta) (hb : JM X R ρ b Tb) (hg : Gl X "range" := by rfl) (hs : starEach [a, b] X.env = [(false, eval a X.env), (false, eval b X.env)] := by rfl) (hs2 : starEach [b] X.env = [(false, eval b X.env)] := by rfl) :
    JI X R ρ tg (.Call (.Name "range" p) [a, b] [] pos) (appM (consM Ta (consM Tb nilM)) dRange) := ji_range2 hm (ja_cons ha (ja_cons hb ja_nil hs2) (by rw [hs, hs2])) hg hs hs2
/-! comprehensions -/
variable {iter elt : Expr} {ifs : List Expr} {scope : Scope} {own : List (Str × Nat)}
theorem okT_nilM : OkT X R scope ρ [] (lift (some true)) := okTE_nil
theorem jl_lc1M {Ti : M (List D)} {i : Nat} {Tt : D → M Bool} {Te : D → M D} (B : Bx X k) (hi : JI X R ρ tg iter Ti) (ok : BlkOk X.N X.env.scope scope own)
    (hg : ∀ (s : Shared) (H : Hp) (C : Addr) (cl : List (Str × Addr)) (fp : List Addr), JG (X.blk s H scope (compEnvC scope cl C X.env) fp) R tg [i] (bd1 i))
    (ht : ∀ d, OkT X R scope ((wipeC ρ (own.map (·.2))).set i (.dat d)) ifs (Tt d)) (he : ∀ d, OkE X R scope ((wipeC ρ (own.map (·.2))).set i (.dat d)) elt (Te d))
    (hsl : ∀ j ∈ [i], j ∈ own.map (·.2) := by decide) (hs : ∀ x, foldedSetIterable iter X.env x = pure x := by intro _; rfl) : JL X R ρ (.ListComp elt [⟨tg, iter, ifs, 0⟩] scope pos) (lcM Ti fun d => turnM (Tt d) (Te d)) :=
  jl_lc B hi ok hsl hg (f := fun d => turnM (Tt d) (Te d)) (fun d q m h => ⟨_, _, _, rfl, ht d, he d, h⟩) hs
theorem st_lc1M {Ti : M (List D)} {i j : Nat} {y : Str} {py spos : Pos} {Tt : D → M Bool} {Te : D → M D} (B : Bx X k) (hi : JI X R ρ tg iter Ti) (ok : BlkOk X.N X.env.scope scope own)
    (hg : ∀ (s : Shared) (H : Hp) (C : Addr) (cl : List (Str × Addr)) (fp : List Addr), JG (X.blk s H scope (compEnvC scope cl C X.env) fp) R tg [i] (bd1 i))
    (ht : ∀ d, OkT X R scope ((wipeC ρ (own.map (·.2))).set i (.dat d)) ifs (Tt d)) (he : ∀ d, OkE X R scope ((wipeC ρ (own.map (·.2))).set i (.dat d)) elt (Te d))
    (hy : X.N[j]? = some y := by rfl) (hyl : X.env.scope.names.lookup y = some .local := by rfl) (hsw : swapsWith (.ListComp elt [⟨tg, iter, ifs, 0⟩] scope pos) (some (.Name y py)) spos.line X.env = pure true := by rfl)
    (hsl : ∀ j ∈ [i], j ∈ own.map (·.2) := by decide) (hs : ∀ x, foldedSetIterable iter X.env x = pure x := by intro _; rfl) : PS X (.Assign [.Name y py] (.ListComp elt [⟨tg, iter, ifs, 0⟩] scope pos) spos) (tAsg (tL R ρ (lcM Ti fun d => turnM (Tt d) (Te d))) (gName j)) :=
  js_lc B hy hyl hsw hi ok hsl hg (f := fun d => turnM (Tt d) (Te d)) (fun d q m h => ⟨_, _, _, rfl, ht d, he d, h⟩) hs
theorem jl_lc2M {Ti : M (List D)} {i1 i2 : Nat} {Tt : D → D → M Bool} {Te : D → D → M D} (B : Bx X k) (hi : JI X R ρ tg iter Ti) (ok : BlkOk X.N X.env.scope scope own)
    (hg : ∀ (s : Shared) (H : Hp) (C : Addr) (cl : List (Str × Addr)) (fp : List Addr), JG (X.blk s H scope (compEnvC scope cl C X.env) fp) R tg [i1, i2] (bdT [i1, i2]))
    (ht : ∀ a b, OkT X R scope (((wipeC ρ (own.map (·.2))).set i1 (.dat a)).set i2 (.dat b)) ifs (Tt a b)) (he : ∀ a b, OkE X R scope (((wipeC ρ (own.map (·.2))).set i1 (.dat a)).set i2 (.dat b)) elt (Te a b))
    (hsl : ∀ j ∈ [i1, i2], j ∈ own.map (·.2) := by decide) (hs : ∀ x, foldedSetIterable iter X.env x = pure x := by intro _; rfl) : JL X R ρ (.ListComp elt [⟨tg, iter, ifs, 0⟩] scope pos) (lcM Ti fun d => un2T d fun a b => turnM (Tt a b) (Te a b)) :=
  jl_lc B hi ok hsl hg (f := fun d => un2T d fun a b => turnM (Tt a b) (Te a b)) (fun d q m h => by
    match d, h with
    | .tuple [a, b], h => exact ⟨_, _, _, rfl, ht a b, he a b, h⟩) hs
theorem st_lc2M {Ti : M (List D)} {i1 i2 j : Nat} {y : Str} {py spos : Pos} {Tt : D → D → M Bool} {Te : D → D → M D} (B : Bx X k) (hi : JI X R ρ tg iter Ti) (ok : BlkOk X.N X.env.scope scope own)
    (hg : ∀ (s : Shared) (H : Hp) (C : Addr) (cl : List (Str × Addr)) (fp : List Addr), JG (X.blk s H scope (compEnvC scope cl C X.env) fp) R tg [i1, i2] (bdT [i1, i2]))
    (ht : ∀ a b, OkT X R scope (((wipeC ρ (own.map (·.2))).set i1 (.dat a)).set i2 (.dat b)) ifs (Tt a b)) (he : ∀ a b, OkE X R scope (((wipeC ρ (own.map (·.2))).set i1 (.dat a)).set i2 (.dat b)) elt (Te a b))
    (hy : X.N[j]? = some y := by rfl) (hyl : X.env.scope.names.lookup y = some .local := by rfl) (hsw : swapsWith (.ListComp elt [⟨tg, iter, ifs, 0⟩] scope pos) (some (.Name y py)) spos.line X.env = pure true := by rfl)
    (hsl : ∀ j ∈ [i1, i2], j ∈ own.map (·.2) := by decide) (hs : ∀ x, foldedSetIterable iter X.env x = pure x := by intro _; rfl) : PS X (.Assign [.Name y py] (.ListComp elt [⟨tg, iter, ifs, 0⟩] scope pos) spos) (tAsg (tL R ρ (lcM Ti fun d => un2T d fun a b => turnM (Tt a b) (Te a b))) (gName j)) :=
  js_lc B hy hyl hsw hi ok hsl hg (f := fun d => un2T d fun a b => turnM (Tt a b) (Te a b)) (fun d q m h => by
    match d, h with
    | .tuple [a, b], h => exact ⟨_, _, _, rfl, ht a b, he a b, h⟩) hs
end
/-! ### statements of drawing code -/
section
variable {α S : Type} {X : Cx} {R : Res} {rk : RK α} {ρ : List Cell} {st : Stmt} {rest body A B' : List Stmt} {κ : Kt} {q : α → Nat → Prop} {e c tg iter : Expr} {pos : Pos} {env : S → List Cell} {s0 : S} {k : S → Nat → Prop}
theorem jk_ifM {Tc : M Bool} {aA aB : Nat → Prop} (hc : JT X R ρ c Tc) (hA : JK X R rk ρ A ⟨fun ρ' b => JK X R rk ρ' rest κ q b, κ.bk, κ.ct⟩ q aA) (hB : JK X R rk ρ B' ⟨fun ρ' b => JK X R rk ρ' rest κ q b, κ.bk, κ.ct⟩ q aB) :
    JK X R rk ρ (.If c A B' pos :: rest) κ q (ifK Tc aA aB) := jk_if hc hA hB
theorem jk_ifJM {S : Type} {env : S → List Cell} {k : S → Nat → Prop} {Tc : M Bool} {aA aB : (S → Nat → Prop) → Nat → Prop} (hc : JT X R ρ c Tc) (hA : ∀ kk, JK X R rk ρ A (KtJ env kk κ) q (aA kk)) (hB : ∀ kk, JK X R rk ρ B' (KtJ env kk κ) q (aB kk)) (hr : ∀ s, JK X R rk (env s) rest κ q (k s)) :
    JK X R rk ρ (.If c A B' pos :: rest) κ q (joinK k fun kk => ifK Tc (aA kk) (aB kk)) := jk_ifJ hc hA hB hr
theorem wk_exM {kk : S → Nat → Prop} (s : S) (w : Wk ρ (env s)) : ∃ s', Wk ρ (env s') ∧ ∀ m, kk s m → kk s' m := ⟨s, w, fun _ h => h⟩
theorem jk_for1 {Ti : M (List D)} {i n : Nat} {bodyM : S → D → (S → Nat → Prop) → Nat → Prop} (B : Bx X n) (hi : JI X R ρ tg iter Ti) (hg : JG X R tg [i] (bd1 i)) (w0 : Wk ρ (env s0))
    (hb : ∀ (s : S) (d : D) (kk : S → Nat → Prop), JK X R rk ((env s).set i (.dat d)) body (KtL env kk fun ρ' b => JK X R rk ρ' rest κ q b) q (bodyM s d kk)) (hr : ∀ s, JK X R rk (env s) rest κ q (k s)) (hs : ∀ x, foldedSetIterable iter X.env x = pure x := by intro _; rfl) :
    JK X R rk ρ (.For tg iter body [] pos :: rest) κ q (Ti fun ds => forK bodyM ds s0 k) := jk_for B hi hg w0 (fun s d kk m _ => ⟨_, rfl, hb s d kk⟩) hr hs
theorem jk_for2 {Ti : M (List D)} {i j n : Nat} {bodyM : S → D → D → (S → Nat → Prop) → Nat → Prop} (B : Bx X n) (hi : JI X R ρ tg iter Ti) (hg : JG X R tg [i, j] (bdT [i, j])) (w0 : Wk ρ (env s0))
    (hb : ∀ (s : S) (d e : D) (kk : S → Nat → Prop), JK X R rk (((env s).set i (.dat d)).set j (.dat e)) body (KtL env kk fun ρ' b => JK X R rk ρ' rest κ q b) q (bodyM s d e kk)) (hr : ∀ s, JK X R rk (env s) rest κ q (k s)) (hs : ∀ x, foldedSetIterable iter X.env x = pure x := by intro _; rfl) :
    JK X R rk ρ (.For tg iter body [] pos :: rest) κ q (Ti fun ds => forK (fun s d kk => un2M d fun x y => bodyM s x y kk) ds s0 k) :=
  jk_for B hi hg w0 (fun s d kk m h => by
    match d, h with
    | .tuple [x, y], h => exact ⟨_, rfl, hb s x y kk⟩) hr hs
theorem brk_keyM (hr : ∀ s, JK X R rk (env s) rest κ q (k s)) (ρ' : List Cell) (b : Nat → Prop) (h : ∃ s', Wk ρ' (env s') ∧ ∀ m, b m → k s' m) : JK X R rk ρ' rest κ q b := by
  obtain ⟨s', w, e⟩ := h
  exact ((hr s').weak w).imp e
def KtLBM {S : Type} (env : S → List Cell) (kk k : S → Nat → Prop) : Kt := KtL env kk fun ρ' b => ∃ s', Wk ρ' (env s') ∧ ∀ m, b m → k s' m
theorem jk_for1J {Ti : M (List D)} {i n : Nat} {bodyM : (S → Nat → Prop) → S → D → (S → Nat → Prop) → Nat → Prop} (B : Bx X n) (hi : JI X R ρ tg iter Ti) (hg : JG X R tg [i] (bd1 i)) (w0 : Wk ρ (env s0))
    (hb : ∀ (k' : S → Nat → Prop) (s : S) (d : D) (kk : S → Nat → Prop), JK X R rk ((env s).set i (.dat d)) body (KtLBM env kk k') q (bodyM k' s d kk)) (hr : ∀ s, JK X R rk (env s) rest κ q (k s)) (hs : ∀ x, foldedSetIterable iter X.env x = pure x := by intro _; rfl) :
    JK X R rk ρ (.For tg iter body [] pos :: rest) κ q (joinK k fun k' => Ti fun ds => forK (bodyM k') ds s0 k') :=
  jk_for1 (env := env) (s0 := s0) B hi hg w0 (fun s d kk => (hb k s d kk).kmono (fun _ _ h => h) (fun ρ' o h => brk_keyM hr ρ' o h) fun _ _ h => h) hr hs
theorem jk_for2J {Ti : M (List D)} {i j n : Nat} {bodyM : (S → Nat → Prop) → S → D → D → (S → Nat → Prop) → Nat → Prop} (B : Bx X n) (hi : JI X R ρ tg iter Ti) (hg : JG X R tg [i, j] (bdT [i, j])) (w0 : Wk ρ (env s0))
    (hb : ∀ (k' : S → Nat → Prop) (s : S) (d e : D) (kk : S → Nat → Prop), JK X R rk (((env s).set i (.dat d)).set j (.dat e)) body (KtLBM env kk k') q (bodyM k' s d e kk)) (hr : ∀ s, JK X R rk (env s) rest κ q (k s)) (hs : ∀ x, foldedSetIterable iter X.env x = pure x := by intro _; rfl) :
    JK X R rk ρ (.For tg iter body [] pos :: rest) κ q (joinK k fun k' => Ti fun ds => forK (fun s d kk => un2M d fun x y => bodyM k' s x y kk) ds s0 k') :=
  jk_for2 (env := env) (s0 := s0) B hi hg w0 (fun s d e kk => (hb k s d e kk).kmono (fun _ _ h => h) (fun ρ' o h => brk_keyM hr ρ' o h) fun _ _ h => h) hr hs
theorem jk_onD {c : Cell} {k : D → Nat → Prop} {sts : List Stmt} {f : Cell → List Cell} (h : ∀ d, JK X R rk (f (.dat d)) sts κ q (k d)) : JK X R rk (f c) sts κ q (onDM k c) := by
  cases c with
  | dat d => exact h d
  | _ => exact ⟨fun _ _ _ _ _ _ ⟨_, _, _, _, _, t, _⟩ => t.elim⟩
theorem jk_onL {c : Cell} {k : List D → Nat → Prop} {sts : List Stmt} {f : Cell → List Cell} (h : ∀ d, JK X R rk (f (.own d)) sts κ q (k d)) : JK X R rk (f c) sts κ q (onLM k c) := by
  cases c with
  | own d => exact h d
  | _ => exact ⟨fun _ _ _ _ _ _ ⟨_, _, _, _, _, t, _⟩ => t.elim⟩
end
end Dl

set_option Elab.async false
set_option linter.all false
set_option autoImplicit false
set_option maxRecDepth 100000
set_option maxHeartbeats 1000000
namespace Dl
open PySem L2 PySem.Spec PyProof.Rows

/-! ### the script -/
def rScr (K : PySem.W.Frag) (a : Addr) (ns : List Int) (ent : Hp) : Res where
  vol := fun _ => False
  S := fun G => SqL K G a (ns.map V.int)
  Dy := fun _ _ => True
  sm := fun e h => by
    rcases h with (h | ⟨o, h⟩) | h
    · exact .inl (.inl (e _ _ h))
    · exact .inl (.inr ⟨o, e _ _ h⟩)
    · exact .inr h
  dm := fun _ _ => trivial
  ent := ent
section
variable {X : Cx} {ρ : List Cell} {e : Expr} {es : List Expr} {pos p p2 p3 p4 p5 px : Pos} {x y : Str} {a : Addr} {ns : List Int} {ent : Hp} {k n : Nat} {lo hi : Option Expr}
theorem cut_map (ns : List Int) (lo hi : Option Int) : ∃ ms : List Int, cutV (ns.map V.int) lo hi = ms.map V.int ∧ cutD (ns.map PyData.int) lo hi = ms.map PyData.int := by
  refine ⟨(ns.drop (HT.sIx ns.length 0 lo)).take (HT.sIx ns.length ns.length hi - HT.sIx ns.length 0 lo), ?_, ?_⟩
  · unfold cutV; simp
  · unfold cutD; simp
/-- script[lo:hi] -/
theorem je_scr {ol oh : Option (Option Int)} (i : Nat) (hl : JO X (rScr X.K a ns ent) ρ lo (lift ol)) (hh : JO X (rScr X.K a ns ent) ρ hi (lift oh)) (hρ : ρ[i]? = some (.raw (.ref a)) := by rfl) (hN : X.N[i]? = some x := by rfl)
    (hv : Vis X.env.scope x := by first | exact Or.inl rfl | exact Or.inr (Or.inl rfl) | exact Or.inr (Or.inr rfl)) (hd : (x == ("__debug__" : Str)) = false := by decide) (hcd : (x == ("__classdict__" : Str)) = false := by decide) :
    JE X (rScr X.K a ns ent) ρ (.Subscript (.Name x p) (.Slice lo hi none p2) pos) (slO (some (.list (ns.map PyData.int))) ol oh) := by
  refine PE.imp (pe_slice sl_list (pe_var (i := i) hN hv hd hcd) hl hh) fun σ H Q ⟨G, m, q, S, t, k⟩ => ?_
  obtain ⟨z, hz, hq⟩ := t
  simp only [slO, Option.bind_some] at hz
  obtain ⟨l, h1, hz⟩ := Option.bind_eq_some_iff.mp hz
  obtain ⟨u, h2, hz⟩ := Option.bind_eq_some_iff.mp hz
  cases hz
  refine ⟨_, S.cell i _ hρ, G, m, (fun o m1 => o = l ∧ q (.list (cutD (ns.map PyData.int) l u)) m1), S, ⟨l, h1, rfl, hq⟩, fun o G1 H1 m1 S1 g1 q1 => ⟨G1, m1, (fun o m1 => o = u ∧ q (.list (cutD (ns.map PyData.int) l u)) m1), S1, ⟨u, h2, rfl, q1.2⟩, fun o2 G2 H2 m2 S2 g2 q2 => ?_⟩⟩
  obtain ⟨rfl, _⟩ := q1
  obtain ⟨rfl, q2⟩ := q2
  refine ⟨a, ns.map V.int, rfl, (rScr X.K a ns ent).sm S2.gh S2.js, fun p hp => ?_⟩
  obtain ⟨ms, e1, e2⟩ := cut_map ns o o2
  rw [e1]
  rw [e2] at q2
  obtain ⟨g4, s4⟩ := grow_new S2.gh hp (.lst (ms.map V.int))
  obtain ⟨S4, g4'⟩ := S2.growS g4 s4
  exact k _ _ _ _ m2 S4 ((g1.trans S1.vh g2).trans S2.vh g4') (.lst upd_same RpL.ofInts) q2
end
/-- what _law_open promises: F ns, a new list -/
def spOpen (K : PySem.W.Frag) (F : List Int → Option (List D)) : Sp := fun vs H Q _ => ∃ G a ns ds, vs = [.ref a] ∧ Same G H ∧ SqL K G a (ns.map V.int) ∧ F ns = some ds ∧ ∀ v G' H', Grow (fun _ => False) G H G' H' → Same G' H' → RK.lst.rel H G' H' v ds → Q v H'
section
variable {P : Program} {w : World} {K : PySem.W.Frag} {mg : Str → Option Value} {base : Heap}
theorem kn_open {F : List Int → Option (List D)} {x : Str} {st : Stmt} {f : Addr} {fd : FuncData} {N ps : List Str} {k : Nat} (Fn : Fun K x x st f fd) (mx : mg x = some (.ref f)) (bs : Binds K fd ps []) (Sc : FnScope N ps (defScope st)) (hn : ps.length = 1)
    (body : ∀ (cdv : Value) (A : Around) (outer : List Env) (s : Shared) (H : Hp) (E : XK), Bx (cxG P w K mg base N x st f cdv A outer s H E) k → ∀ (a : Addr) (ns : List Int),
      JKE (cxG P w K mg base N x st f cdv A outer s H E) (rScr K a ns H) .lst (startP N a []) (defBody st) KtFL (F ns)) : Kn P w K mg base x (k + 1) (spOpen K F) := by
  refine ⟨f, fd, ps, fn_g Fn Sc (fun vs H Q E h => ?_) (fun cdv A outer s H vs Q E hg hr h => ?_), mx, Fn.kp, bs⟩
  · obtain ⟨G, a, ns, ds, rfl, _⟩ := h
    rw [hn]; rfl
  · obtain ⟨G, a, ns, ds, rfl, gh, hS, hF, k⟩ := h
    have B : Bx (cxG P w K mg base N x st f cdv A outer s H E) _ := ⟨hr, hg, rfl, Sc.nd, PassesOwn.never⟩
    have S : Sat (rScr K a ns H) G H 0 := ⟨gh, fun _ z => z.elim, fun _ z => z.elim, hS, trivial, fun _ h => h⟩
    have rt : Rt (rScr K a ns H) .lst G (fun a' _ => a' = ds) Q := fun v a' G' H' m' S' g' rr e => by
      subst e
      exact k v G' H' g' S'.gh rr
    refine ⟨_, (body cdv A outer s H E B a ns ds).nox, G, G, 0, sit_startP S .nil, Grow.refl _ _ _, hF, rt, ?_, ?_, ?_⟩
    · intro _ _ _ _ _ _ h; obtain ⟨_, h, _⟩ := h; exact h.elim
    · intro _ _ _ _ _ _ h; obtain ⟨_, h, _⟩ := h; exact h.elim
    · intro _ _ _ _ _ _ h; obtain ⟨_, h, _⟩ := h; exact h.elim
end

/-! ### the law -/
def spLaw (K : PySem.W.Frag) : Sp := fun vs H Q _ => ∃ (a : Addr) (ns : List Int), vs = [.ref a] ∧ SqL K H a (ns.map V.int) ∧ ns.length ≤ 63 ∧ ∀ H', Q (.bl true) H'
def qTrue : D → Nat → Prop := fun d _ => d = .bool true
def tOpen (K : PySem.W.Frag) (F : List Int → Option (List D)) (a : Addr) : TE := fun σ H Q => ∃ G ns ds, σ[0]? = some (some (.ref a)) ∧ Same G H ∧ SqL K G a (ns.map V.int) ∧ F ns = some ds ∧ ∀ v G' H', Grow (fun _ => False) G H G' H' → Same G' H' → RK.lst.rel H G' H' v ds → Q v H'
section
variable {X : Cx} {pos p p2 p3 p4 p5 px : Pos} {x y z : Str} {a : Addr} {k : Nat} {F : List Int → Option (List D)}
theorem ps_open (i : Nat) (B : Bx X k) (h : Kn X.prog X.w X.K X.mg X.base x k (spOpen X.K F)) (hN : X.N[0]? = some y := by rfl) (hv : Vis X.env.scope y := by first | exact Or.inl rfl | exact Or.inr (Or.inl rfl) | exact Or.inr (Or.inr rfl)) (hd : (y == ("__debug__" : Str)) = false := by decide) (hcd : (y == ("__classdict__" : Str)) = false := by decide) (hg : Gl X x := by rfl)
    (hdb : (x == ("__debug__" : Str)) = false := by decide) (he : starEach [.Name y p2] X.env = (false, eval (.Name y p2) X.env) :: starEach [] X.env := by rfl) (hpl : (backTo p4 (starEach [] X.env)).any (·.1) = false := by rfl) (hi : X.N[i]? = some z := by rfl) (hx : Loc X.env.scope z := by first | exact Or.inl rfl | exact Or.inr rfl)
    (hs : swapsWith (.Call (.Name x p) [.Name y p2] [] p4) (some (.Name z p5)) pos.line X.env = pure false := by rfl) (hf : X.fn z = true ∨ X.env.scope.names.lookup z = some .local := by first | exact .inl rfl | exact .inr rfl) :
    PS X (.Assign [.Name z p5] (.Call (.Name x p) [.Name y p2] [] p4) pos) (tAsg (tOpen X.K F a) (gName i)) :=
  PS.imp (ps_set B.nd hi hx (pe_kn h B (pa_cons (pe_var (i := 0) hN hv hd hcd) pa_nil he) hg hdb he hpl) hs hf) fun Dn σ H ⟨G, ns, ds, e, gh, hS, hF, k⟩ => ⟨_, e, G, a, ns, ds, rfl, gh, hS, hF, k⟩
end
section
variable {P : Program} {w : World} {K : PySem.W.Frag} {mg : Str → Option Value} {base : Heap}
theorem law_g {F : List Int → Option (List D)} {L : List Int → Nat → Prop} {x : Str} {st st0 : Stmt} {rest : List Stmt} {f : Addr} {fd : FuncData} {N ps : List Str} {k i : Nat} (Fn : Fun K x x st f fd) (Sc : FnScope N ps (defScope st)) (hn : ps.length = 1) (hb : defBody st = st0 :: rest) (hi : 0 < i) (hiN : i < N.length)
    (hF : ∀ ns : List Int, ns.length ≤ 63 → ∃ cs : List Int, F ns = some [.list (cs.map PyData.int), .int 0, .int 0]) (hL : ∀ cs, L cs 0)
    (first : ∀ (cdv : Value) (A : Around) (outer : List Env) (s : Shared) (H : Hp) (E : XK), Bx (cxG P w K mg base N x st f cdv A outer s H E) k → ∀ a : Addr, PS (cxG P w K mg base N x st f cdv A outer s H E) st0 (tAsg (tOpen K F a) (gName i)))
    (body : ∀ (cdv : Value) (A : Around) (outer : List Env) (s : Shared) (H : Hp) (E : XK), Bx (cxG P w K mg base N x st f cdv A outer s H E) k → ∀ (a pa ca : Addr) (cs : List Int),
      JK (cxG P w K mg base N x st f cdv A outer s H E) (rPen pa ca cs H) .dat ((startP N a []).set i (.raw (.ref pa))) rest (KtF .dat qTrue) qTrue (L cs)) : FnG P w K mg base CX0 (k + 1) f fd ps (spLaw K) := by
  refine fn_g Fn Sc (fun vs H Q E h => ?_) (fun cdv A outer s H vs Q E hg hr h => ?_)
  · obtain ⟨a, ns, rfl, _⟩ := h
    rw [hn]; rfl
  · obtain ⟨a, ns, rfl, hS, hl, hQ⟩ := h
    have B : Bx (cxG P w K mg base N x st f cdv A outer s H E) _ := ⟨hr, hg, rfl, Sc.nd, PassesOwn.never⟩
    obtain ⟨cs, hcs⟩ := hF ns hl
    rw [hb]
    refine ⟨_, (pss_cons (first cdv A outer s H E B a) (pss_any fun z : Addr × Addr => body cdv A outer s H E B a z.1 z.2 cs)).nox, ?_⟩
    -- what is known of the heap: the script alone
    have hG : ∃ G : Hp, Same G H ∧ SqL K G a (ns.map V.int) := by
      refine ⟨fun b => if b = a then H a else none, fun b o e => ?_, ?_⟩
      · have e : (if b = a then H a else none) = some o := e
        by_cases z : b = a
        · rw [if_pos z] at e; rw [z]; exact e
        · rw [if_neg z] at e; cases e
      · rcases hS with (h | ⟨o, h⟩) | h
        · exact .inl (.inl ((if_pos rfl).trans h))
        · exact .inl (.inr ⟨o, (if_pos rfl).trans h⟩)
        · exact .inr h
    obtain ⟨G, gh, hSG⟩ := hG
    refine ⟨G, ns, _, ?_, gh, hSG, hcs, fun v G' H' g' s' rr => ?_⟩
    · rfl
    · obtain ⟨pa, ws, rfl, en, gp, hp, r⟩ := rr
      cases r with
      | cons r1 r =>
        cases r with
        | cons r2 r =>
          cases r with
          | cons r3 r =>
            cases r
            cases r2
            cases r3
            cases r1 with
            | @lst ca us _ hca rc =>
              have e := rc.ints
              subst e
              have S : Sat (rPen pa ca cs H) G' H' 0 := ⟨s', fun b vb => by
                have vb : b = pa := vb
                subst vb; exact gp, fun b vb => by
                have vb : b = pa := vb
                subst vb; rw [hp]; exact fun z => (nomatch z), hca, ⟨0, 0, hp, Nat.le_refl _⟩, fun b hb => free_of g' (fun _ z => z.elim) hb⟩
              have S1 : Sit (rPen pa ca cs H) (L2.start N [.ref a]) (startP N a []) G' H' 0 := sit_startP S .nil
              have S2 := S1.setC i (some (.ref pa)) (.raw (.ref pa)) (fun _ z => nomatch z) rfl
              have rt : Rt (rPen pa ca cs H) .dat G' qTrue Q := fun v d G2 H2 m2 S2 g2 rr e => by
                have e : d = .bool true := e
                subst e
                cases rr
                exact hQ H2
              have g0 : Grow (rPen pa ca cs H).vol G' H G' H' := ⟨Same.refl _, fun b o nv h => g'.hh b o (fun z => z) h, fun b gb _ => gb⟩
              refine ⟨(pa, ca), G', G', 0, S2, g0, hL cs, rt, ?_, ?_, ?_⟩
              · intro ρ' b σ' G2 H2 m' h hb S' g2 _
                exact Falls.ok (R := rPen pa ca cs H) (Gb := G') rt h hb S' g2
              · intro _ _ _ _ _ _ h; exact h.elim
              · intro _ _ _ _ _ _ h; exact h.elim
end
end Dl

set_option Elab.async false
set_option linter.all false
set_option autoImplicit false
set_option maxRecDepth 100000
set_option maxHeartbeats 1000000
namespace Dl
open PySem L2 PySem.Spec PyProof.Rows

/-! ### the end: the law's call, from its promise -/
abbrev Goal (P : Program) (w : World) (fa a : Addr) (t : Shared) : Prop := codeAny (model P w) callerA (.call (.ref fa) ⟨[.ref a], []⟩) (fun r z => r = .ok (.ret (.bool true)) ∧ OldK t.heap z.heap ∧ z.os = t.os ∧ AllBare z.gens) t
section
variable {P : Program} {w : World} {K : PySem.W.Frag} {mg mb : Str → Option Value} {k : Nat} {fa a : Addr} {fd : FuncData} {t : Shared} {vs : List Value} {ns : List Int}
/-- over an abstract heap T that tracks at most the script -/
theorem end_core (kin : K.In t.heap) (n1 : t.heap.Ns mainGlobals mg) (n2 : t.heap.Ns builtinsNs mb) (nb : ∀ x : Str, x ≠ "__name__" → mb x = bootBuiltins x) (nl : t.heap.NoLimit) (g0 : t.gens = #[]) (obj : t.heap.get? a = some { cls := .type "list", data := .seq vs.toArray })
    (room : Room k callerA) (short : ns.length ≤ 63) (F : ∀ base : Heap, K.In base → base.Ns mainGlobals mg → FnG P w K mg base CX0 k fa fd ["script"] (spLaw K)) (bind : ∀ (s : Shared) (u : Value), BindsTo s fd ⟨[u], []⟩ [("script", u)])
    (T : Hp) (only : Only T) (scr : SqL K T a (ns.map V.int)) (ok : HOk P w T t.heap) (at1 : ∀ b, T b ≠ none → b = a) (lk : T a ≠ none → K.lookup a = none) : Goal P w fa a t := by
  have same : ∀ {b : Addr}, T b ≠ none → b = a := fun {b} h => at1 b h
  have notdict : ∀ {b : Addr} {o : Obj} {es : Array DictEntry} {i : Nat}, t.heap.get? b = some o → o.data = .dict es i → T b = none := fun {b o es i} e d => Classical.byContradiction fun z => by
    have := same z; subst this
    rw [obj] at e; cases e
    have d' : Data.seq vs.toArray _ = Data.dict es i := d
    cases d'
  have ns' : ∀ {b : Addr} {m : Str → Option Value}, t.heap.Ns b m → (hidT t.heap T).Ns b m := fun {b m} z => by
    obtain ⟨o, es, i, e, d, r⟩ := z
    exact ⟨o, es, i, hidT_get e (notdict e d), d, r⟩
  have kin' : K.In (hidT t.heap T) := fun b o e => hidT_get (kin b o e) (Classical.byContradiction fun z => by
    have := same z; subst this
    rw [lk z] at e; cases e)
  have md : Mod K mg (hidT t.heap T) := by
    refine ⟨kin', ns' n1, ⟨mb, ns' n2, nb⟩, ?_⟩
    obtain ⟨mc, h1, h2⟩ := nl
    exact ⟨mc, ns' h1, h2⟩
  have env : Env0 P w K mg (hidT t.heap T) callerA [] t T := by
    refine ⟨rfl, md, fun b o e => of_hidT e, Nat.le_of_eq (hidT_size _ _), trivial, ?_, ok, .of_eq g0⟩
    intro b hb
    exact absurd (show b ∈ ([] : List Addr) from hb) (by simp)
  have run := (F _ kin' (ns' n1)).run callerA [] t T ⟨[.ref a], []⟩ [.ref a] [.ref a] (fun v _ => v = .bl true) (fun _ _ _ => False) rfl room env (bind t (.ref a)) (.cons rfl .nil) ⟨a, ns, rfl, scr, short, fun _ => rfl⟩
  refine codeAny_mono run fun r z h => ?_
  match r, h with
  | .ok (.ret u), h =>
    obtain ⟨v, T', os, bare, un, ok', rv, rfl⟩ := h
    obtain rfl : u = Value.bool true := rv
    refine ⟨rfl, OldK.of_keep fun b o e => ?_, os, bare⟩
    rcases only b with y | ⟨ob, xs, y⟩
    · exact un.keep b o e y (fun z => absurd (show b ∈ ([] : List Addr) from z) (by simp)) (by simp)
    · have y2 := un.frzs b ob _ y
      have e1 := (ok b _ y).1
      rw [e] at e1
      cases e1
      exact (ok' b _ y2).1
  | .error e, h => exact False.elim h
theorem end_call (kin : K.In t.heap) (n1 : t.heap.Ns mainGlobals mg) (n2 : t.heap.Ns builtinsNs mb) (nb : ∀ x : Str, x ≠ "__name__" → mb x = bootBuiltins x) (nl : t.heap.NoLimit) (g0 : t.gens = #[]) (obj : t.heap.get? a = some { cls := .type "list", data := .seq vs.toArray })
    (hints : IntsAre vs ns) (room : Room k callerA) (short : ns.length ≤ 63) (F : ∀ base : Heap, K.In base → base.Ns mainGlobals mg → FnG P w K mg base CX0 k fa fd ["script"] (spLaw K)) (bind : ∀ (s : Shared) (u : Value), BindsTo s fd ⟨[u], []⟩ [("script", u)]) : Goal P w fa a t := by
  have rv := vals_ints hints
  have ll := hints.length
  have lz : ns.length ≤ sizeLine := Nat.le_trans short (by decide)
  have C := end_core kin n1 n2 nb nl g0 obj room short F bind
  cases hk : K.lookup a with
  | some o =>
    have e := kin a o hk
    rw [obj] at e
    cases e
    refine C (fun _ => none) (fun _ => .inl rfl) (.inr ⟨_, vs.toArray, _, hk, rfl, rfl, rfl, ?_, by simpa using rv⟩) (fun b u z => ?_) (fun b z => absurd rfl z) fun z => absurd rfl z
    · rw [List.size_toArray, ll]; exact lz
    · have z' : (none : Option HO) = some u := z
      cases z'
  | none =>
    let T : Hp := upd (fun _ => none) a (.frz { cls := .type "list", data := .seq vs.toArray } (.lst (ns.map V.int)))
    have off : ∀ {b : Addr}, b ≠ a → T b = none := fun {b} n => upd_ne n
    have on : T a = some (.frz { cls := .type "list", data := .seq vs.toArray } (.lst (ns.map V.int))) := upd_same
    refine C T (fun b => ?_) (.inl (.inr ⟨_, on⟩)) (fun b u z => ?_) (fun b z => Classical.byContradiction fun n => z (off n)) fun _ => hk
    · by_cases n : b = a
      · subst n; exact .inr ⟨_, _, on⟩
      · exact .inl (off n)
    · by_cases n : b = a
      · subst n
        rw [on] at z
        cases z
        exact ⟨obj, by rw [List.length_map]; exact lz, vs, _, rv, obj⟩
      · rw [off n] at z; cases z
end
/-- the goal that the head leaves, from the law's promise -/
theorem walkG {l : PySem.W.OpenLaw} {k : Nat} {q : Program} {loose : List Str} {XP : (Str → Option Value) → Heap → Prop} {YP : World → Heap → Prop} {d : DefRec} {K : Params → PySem.W.Frag} (most : l.most = some 63) (nodef : d.params.defaults = []) (room : Room k callerA)
    (inK : ∀ (w : World) (h : Heap), YP w h → (K w.params).In h) (F : ∀ (w : World) (mg : Str → Option Value) (fa : Addr) (h : Heap), (K w.params).In h → h.Ns mainGlobals mg → mg d.name = some (.ref fa) → ∃ fd : FuncData, (∀ (s : Shared) (u : Value), BindsTo s fd ⟨[u], []⟩ [("script", u)]) ∧
      ∀ base : Heap, (K w.params).In base → base.Ns mainGlobals mg → FnG l.prog w (K w.params) mg base CX0 k fa fd ["script"] (spLaw (K w.params))) : PySem.W.WalkO q loose XP YP l.row.toRowW d [] (fun f vs => PySem.call f vs) := by
  refine Att.attach_call most nodef fun w s0 t mg mb fa o pm cd doc a vs ns G Y ho hd hcd hmg obj hints short g0 => ?_
  obtain ⟨fd, bind, hF⟩ := F w mg fa _ (inK w _ Y) G.T.g hmg
  exact end_call (inK w _ Y) G.T.g G.T.b G.T.builtins G.T.nolimit g0 obj hints room short hF bind
end Dl

set_option Elab.async false
set_option linter.all false
set_option autoImplicit false
set_option maxRecDepth 100000
set_option maxHeartbeats 1000000
namespace Dl
open PySem L2
def G0 {α : Type} (f : M α) : List D → M α
  | [] => f
  | _ => fun _ _ => False
def G1 {α : Type} (f : D → M α) : List D → M α
  | [x] => f x
  | _ => fun _ _ => False
def G2 {α : Type} (f : D → D → M α) : List D → M α
  | [x, y] => f x y
  | _ => fun _ _ => False
def G3 {α : Type} (f : D → D → D → M α) : List D → M α
  | [x, y, z] => f x y z
  | _ => fun _ _ => False
def G4 {α : Type} (f : D → D → D → D → M α) : List D → M α
  | [x, y, z, u] => f x y z u
  | _ => fun _ _ => False
def G5 {α : Type} (f : D → D → D → D → D → M α) : List D → M α
  | [x, y, z, u, v] => f x y z u v
  | _ => fun _ _ => False
def G6 {α : Type} (f : D → D → D → D → D → D → M α) : List D → M α
  | [x, y, z, u, v, w] => f x y z u v w
  | _ => fun _ _ => False
/-! ### the law's own words, as all laws have them -/
def m__law_open (ns : List Int) : Option (List D) :=
  ((C1 dItems (slO (some (.list (ns.map PyData.int))) (some none) ((some (PyData.int 12)).bind asI))).bind fun cells1 => ((C1 dEnum (slO (some (.list (ns.map PyData.int))) ((some (PyData.int 12)).bind asI) ((some (PyData.int 63)).bind asI))).bind fun ds => forO (S := List D) (fun s2 d kk3 => un2 d fun k6 cell7 => (setIO s2 (immO (b2 dAdd (b2 dIx (some (PyData.list s2)) (b2 dMod (C1 dInt (some k6)) (some (PyData.int 12)))) (some cell7))) (b2 dMod (C1 dInt (some k6)) (some (PyData.int 12))) fun cells8 => (kk3 cells8))) ds cells1 fun s5 => (consO (some (PyData.list s5)) (consO (some (PyData.int 0)) (consO (some (PyData.int 0)) (some []))))))
@[irreducible] def m__law_spread (cell1 at2 : D) : Option (D) :=
  (ifO ((b2 dGe (some cell1) (b2 dPow (some (PyData.int 10)) (some (PyData.int 18)))).bind asB) (some cell1) (((consO (some (PyData.int 2147483629)) (consO (some (PyData.int 2147483587)) (consO (some (PyData.int 2147483579)) (consO (some (PyData.int 2147483563)) (consO (some (PyData.int 2147483549)) (consO (some (PyData.int 2147483543)) (consO (some (PyData.int 2147483497)) (consO (some (PyData.int 2147483489)) (some []))))))))).map PyData.list).bind fun primes3 => ((b2 dAdd (some primes3) ((consO (some (PyData.int 2147483477)) (consO (some (PyData.int 2147483423)) (consO (some (PyData.int 2147483399)) (consO (some (PyData.int 2147483353)) (consO (some (PyData.int 2147483323)) (some [])))))).map PyData.list)).bind fun primes4 => ((b2 dAdd (b2 dAdd (b2 dMul (b2 dMod (C1 dInt (some cell1)) (some (PyData.int 1000000007))) (b2 dAdd (b2 dMul (some (PyData.int 2)) (some at2)) (some (PyData.int 69069)))) (b2 dMul (some at2) (some (PyData.int 40503)))) (some (PyData.int 977))).bind fun one5 => ((b2 dMod (C1 dInt (b2 dPow (some one5) (some (PyData.int 3)))) (b2 dIx (some primes4) (b2 dMod (C1 dInt (some at2)) (some (PyData.int 13))))).bind fun one6 => ((b2 dMod (C1 dInt (b2 dPow (b2 dAdd (b2 dAdd (b2 dMul (some one6) (b2 dAdd (some at2) (some (PyData.int 3)))) (b2 dMod (C1 dInt (some cell1)) (some (PyData.int 65537)))) (some (PyData.int 5))) (some (PyData.int 5)))) (b2 dIx (some primes4) (b2 dMod (C1 dInt (b2 dAdd (some at2) (some (PyData.int 5)))) (some (PyData.int 13))))).bind fun two7 => ((b2 dMod (C1 dInt (b2 dPow (b2 dAdd (b2 dAdd (some two7) (b2 dMod (C1 dInt (some one6)) (some (PyData.int 1009)))) (some at2)) (some (PyData.int 3)))) (b2 dIx (some primes4) (b2 dMod (C1 dInt (b2 dAdd (some at2) (some (PyData.int 7)))) (some (PyData.int 13))))).bind fun three8 => (b2 dAdd (b2 dMul (b2 dAdd (b2 dMul (some one6) (some (PyData.int 2147483647))) (some two7)) (some (PyData.int 2147483647))) (some three8)))))))))
def b__law_take (cs : List Int) (amount1 : D) (q : D → Nat → Prop) : Nat → Prop :=
  (joinK (fun (s2 : Unit) => ((op2 dMod (appM (consM (penAt cs 2) nilM) (F1 dInt)) (lift (some amount1))) fun found10 => ((op2 dFdiv (penAt cs 2) (lift (some amount1))) fun d => penSet 2 d ((lift (some found10)) q)))) fun kk3 => ifK (bindM (op2 dLt (penAt cs 2) (lift (some amount1))) asB) ((penAt cs 1) fun at4 => ((lift (some (PyData.int 0))) fun cell5 => (joinK (fun (s6 : D) => ((lift (b2 dAdd (some at4) (some (PyData.int 1)))) fun d => penSet 1 d ((lift (C2 m__law_spread (some s6) (some at4))) fun d => penSet 2 d (kk3 ())))) fun kk7 => ifK (bindM (op2 dLt (lift (some at4)) (appM (consM (penAt cs 0) nilM) (F1 dLen))) asB) ((op2 dIx (penAt cs 0) (lift (some at4))) fun cell8 => (kk7 cell8)) (ifK (bindM (op2 dGt (appM (consM (penAt cs 0) nilM) (F1 dLen)) (lift (some (PyData.int 0)))) asB) ((op2 dMod (appM (consM (op2 dIx (penAt cs 0) (op2 dMod (lift (C1 dInt (b2 dAdd (b2 dMul (some at4) (some (PyData.int 5))) (some (PyData.int 3))))) (appM (consM (penAt cs 0) nilM) (F1 dLen)))) nilM) (F1 dInt)) (lift (b2 dAdd (b2 dPow (some (PyData.int 10)) (some (PyData.int 17))) (some at4)))) fun cell9 => (kk7 cell9)) (kk7 cell5))))) (kk3 ()))
/-! ### plain facts of the words -/
theorem atI_ok {α : Type} {xs : List α} {i : Int} (h0 : 0 ≤ i) (h : i < xs.length) : atI xs i = xs[i.toNat]? := by
  unfold atI ixN
  rw [if_pos h0, if_pos h]
  rfl
theorem dMul_ok {i j : Int} (hi : i.natAbs < 2 ^ 256) (hj : j.natAbs < 2 ^ 256) : dMul (.int i) (.int j) = some (.int (i * j)) := by
  have key : ∀ n : Nat, n < 2 ^ 256 → n.log2 ≤ 256 := fun n hn => by
    by_cases z : n = 0
    · subst z; decide
    · exact Nat.le_of_lt ((Nat.log2_lt z).mpr hn)
  have h1 := key _ hi
  have h2 := key _ hj
  show (if i.natAbs.log2 + j.natAbs.log2 < 1000000 then some (PyData.int (i * j)) else none) = _
  rw [if_pos (by omega)]
theorem dMod_ok {i j : Int} (h : 0 < j) : dMod (.int i) (.int j) = some (.int (i % j)) := if_pos h
theorem dFdiv_ok {i j : Int} (h : 0 < j) (h2 : j.natAbs < 2 ^ 256) : dFdiv (.int i) (.int j) = some (.int (i / j)) := by
  refine if_pos ⟨h, ?_⟩
  have : j.natAbs.log2 < 256 := (Nat.log2_lt (by omega)).mpr h2
  omega
theorem dPow_ok {i : Int} {n : Nat} (h : i.natAbs < 2 ^ 64) (hn : n ≤ 1000000) : dPow (.int i) (.int n) = some (.int (i ^ n)) := by
  refine (if_pos ⟨by omega, by omega, h⟩).trans ?_
  rw [Int.toNat_natCast]
theorem dIx_list {xs : List D} {i : Int} (h0 : 0 ≤ i) (h : i < xs.length) : dIx (.list xs) (.int i) = xs[i.toNat]? := atI_ok h0 h
theorem dIx_tup {xs : List D} {i : Int} (h0 : 0 ≤ i) (h : i < xs.length) : dIx (.tuple xs) (.int i) = xs[i.toNat]? := atI_ok h0 h
theorem pull {α β : Type} {o : Option α} {f : α → Option β} {a : α} (h : o = some a) : o.bind f = f a := by rw [h]; rfl
theorem b2_ok {f : D → D → Option D} {oa ob : Option D} {a b : D} (ha : oa = some a) (hb : ob = some b) : b2 f oa ob = f a b := by rw [ha, hb]; rfl
theorem ifO_ok {α : Type} {oc : Option Bool} {oa ob : Option α} {t : Bool} (h : oc = some t) : ifO oc oa ob = if t = true then oa else ob := by rw [h]; rfl
theorem b2_some (f : D → D → Option D) (a b : D) : b2 f (some a) (some b) = f a b := rfl
theorem c1_some {β : Type} (f : D → Option β) (a : D) : C1 f (some a) = f a := rfl
theorem dInt_int (i : Int) : dInt (.int i) = some (.int i) := rfl
theorem dMod_i {i j : Int} (h : 0 < j) : b2 dMod (C1 dInt (some (.int i))) (some (.int j)) = some (.int (i % j)) := dMod_ok (i := i) h
theorem asI_int (i : Int) : (some (PyData.int i)).bind asI = some (some i) := rfl
theorem slO_some (d : D) (lo hi : Option Int) : slO (some d) (some lo) (some hi) = dCut d lo hi := rfl
theorem lift_of {α : Type} {o : Option α} {a : α} {q : α → Nat → Prop} {m : Nat} (h : o = some a) (hq : q a m) : lift o q m := ⟨a, h, hq⟩

/-! ### _law_open -/
theorem cutD_lo (xs : List D) (n : Nat) : cutD xs none (some (n : Int)) = xs.take n := by
  unfold cutD
  rw [HT.sIx_none, HT.sIx_nat]
  show List.take (min n xs.length - 0) (List.drop 0 xs) = _
  rw [List.drop_zero, Nat.sub_zero]
  by_cases h : n ≤ xs.length
  · rw [Nat.min_eq_left h]
  · rw [Nat.min_eq_right (by omega), List.take_of_length_le (Nat.le_refl _), List.take_of_length_le (by omega)]
theorem setL_int {xs : List Int} {i : Nat} {z : Int} : (xs.map PyData.int).set i (.int z) = (xs.set i z).map PyData.int := by
  rw [List.map_set]
theorem ixN_nat' {n j : Nat} (hj : j < n) : ixN n (j : Int) = some j := by
  unfold ixN
  rw [if_pos (by omega), if_pos (by omega), Int.toNat_natCast]
theorem open_step {n : Nat} {z : Int} {xs : List Int} {α : Type} {k : List D → Option α} (h : xs.length = 12) :
    ∃ ys : List Int, ys.length = 12 ∧ (setIO (xs.map PyData.int) (immO (b2 dAdd (b2 dIx (some (.list (xs.map PyData.int))) (b2 dMod (C1 dInt (some (.int (n : Nat)))) (some (.int 12)))) (some (.int z)))) (b2 dMod (C1 dInt (some (.int (n : Nat)))) (some (.int 12))) fun c => k c) = k (ys.map PyData.int) := by
  have hm : b2 dMod (C1 dInt (some (.int (n : Nat)))) (some (.int 12)) = some (.int (((n % 12 : Nat)) : Int)) := by
    rw [dMod_i (by decide)]
    congr 2
  have hl : (xs.map PyData.int).length = 12 := by simp [h]
  have hlt : n % 12 < xs.length := by omega
  refine ⟨xs.set (n % 12) (xs[n % 12] + z), by simp [h], ?_⟩
  rw [hm]
  have h1 : b2 dIx (some (.list (xs.map PyData.int))) (some (.int (((n % 12 : Nat)) : Int))) = some (.int xs[n % 12]) := by
    rw [b2_some, dIx_list (by omega) (by omega), Int.toNat_natCast]
    simp [hlt]
  rw [h1]
  have h2 : immO (b2 dAdd (some (.int xs[n % 12])) (some (.int z))) = some (.int (xs[n % 12] + z)) := rfl
  rw [h2]
  unfold setIO
  rw [Option.bind_some, Option.bind_some]
  show (ixN (xs.map PyData.int).length ((n % 12 : Nat) : Int)).bind _ = _
  rw [ixN_nat' (by omega), Option.bind_some, setL_int]
theorem open_loop {α : Type} {k : List D → Option α} : ∀ (zs : List Int) (n : Nat) (xs : List Int), xs.length = 12 → ∃ ys : List Int, ys.length = 12 ∧ forO (S := List D) (fun s2 d kk3 => un2 d fun k6 cell7 => (setIO s2 (immO (b2 dAdd (b2 dIx (some (.list s2)) (b2 dMod (C1 dInt (some k6)) (some (.int 12)))) (some cell7))) (b2 dMod (C1 dInt (some k6)) (some (.int 12))) fun cells8 => (kk3 cells8))) (enumD n (zs.map PyData.int)) (xs.map PyData.int) k = k (ys.map PyData.int)
  | [], n, xs, h => ⟨xs, h, rfl⟩
  | z :: zs, n, xs, h => by
    obtain ⟨ys, h1, e1⟩ := open_step (n := n) (z := z) (k := fun s' => forO (S := List D) (fun s2 d kk3 => un2 d fun k6 cell7 => (setIO s2 (immO (b2 dAdd (b2 dIx (some (.list s2)) (b2 dMod (C1 dInt (some k6)) (some (.int 12)))) (some cell7))) (b2 dMod (C1 dInt (some k6)) (some (.int 12))) fun cells8 => (kk3 cells8))) (enumD (n + 1) (zs.map PyData.int)) s' k) h
    obtain ⟨ws, h2, e2⟩ := open_loop zs (n + 1) ys h1
    exact ⟨ws, h2, e1.trans e2⟩
theorem law_open_ok (ns : List Int) (_ : ns.length ≤ 63) : ∃ cs : List Int, m__law_open ns = some [.list (cs.map PyData.int), .int 0, .int 0] := by
  obtain ⟨ms, _, e2⟩ := cut_map ns (some 12) (some 63)
  have hA : slO (some (.list (ns.map PyData.int))) (some none) ((some (PyData.int 12)).bind asI) = some (.list ((ns.take 12).map PyData.int)) := by
    rw [asI_int, slO_some]
    show some (PyData.list (cutD _ none (some ((12 : Nat) : Int)))) = _
    rw [cutD_lo, List.map_take]
  have hB : slO (some (.list (ns.map PyData.int))) ((some (PyData.int 12)).bind asI) ((some (PyData.int 63)).bind asI) = some (.list (ms.map PyData.int)) := by
    rw [asI_int, asI_int, slO_some]
    show some (PyData.list (cutD _ (some 12) (some 63))) = _
    rw [e2]
  unfold m__law_open
  rw [hA, hB]
  show ∃ cs : List Int, forO (S := List D) _ (enumD 0 (ms.map PyData.int)) ((ns.take 12).map PyData.int) _ = _
  by_cases hn : 12 ≤ ns.length
  · obtain ⟨ys, _, e⟩ := open_loop (k := fun s5 => (consO (some (.list s5)) (consO (some (.int 0)) (consO (some (.int 0)) (some []))))) ms 0 (ns.take 12) (by simp; omega)
    exact ⟨ys, e⟩
  · have : ms = [] := by
      have h1 : ms.length = (cutD (ns.map PyData.int) (some 12) (some 63)).length := by rw [e2]; simp
      have h2 : (cutD (ns.map PyData.int) (some ((12 : Nat) : Int)) (some ((63 : Nat) : Int))).length = 0 := by
        unfold cutD
        rw [HT.sIx_nat, HT.sIx_nat]
        simp; omega
      exact List.length_eq_zero_iff.mp (h1.trans h2)
    subst this
    exact ⟨ns.take 12, rfl⟩

/-! ### _law_spread -/
def primesN : List Int := [2147483629, 2147483587, 2147483579, 2147483563, 2147483549, 2147483543, 2147483497, 2147483489, 2147483477, 2147483423, 2147483399, 2147483353, 2147483323]
theorem prime_at (z : Int) : ∃ p : Int, b2 dIx (some (.list (primesN.map PyData.int))) (b2 dMod (C1 dInt (some (.int z))) (some (.int 13))) = some (.int p) ∧ 0 < p ∧ p < 2147483648 := by
  have hm : b2 dMod (C1 dInt (some (.int z))) (some (.int 13)) = some (.int (z % 13)) := dMod_i (by decide)
  rw [hm]
  have h0 : 0 ≤ z % 13 := Int.emod_nonneg _ (by decide)
  have h1 : z % 13 < 13 := Int.emod_lt_of_pos _ (by decide)
  have hlt : (z % 13).toNat < primesN.length := by show _ < 13; omega
  have hb : ∀ p ∈ primesN, 0 < p ∧ p < 2147483648 := by decide
  refine ⟨primesN[(z % 13).toNat], ?_, hb _ (List.getElem_mem hlt)⟩
  rw [b2_some, dIx_list h0 (by show z % 13 < 13; exact h1), List.getElem?_map, List.getElem?_eq_getElem hlt]
  rfl
theorem add_ok (i j : Int) : b2 dAdd (some (.int i)) (some (.int j)) = some (.int (i + j)) := rfl
theorem sub_ok (i j : Int) : b2 dSub (some (.int i)) (some (.int j)) = some (.int (i - j)) := rfl
theorem int_ok (i : Int) : C1 dInt (some (.int i)) = some (.int i) := rfl
theorem mul_ok {i j : Int} (hi : i.natAbs < 2 ^ 256) (hj : j.natAbs < 2 ^ 256) : b2 dMul (some (.int i)) (some (.int j)) = some (.int (i * j)) := dMul_ok hi hj
theorem mod_ok {i j : Int} (h : 0 < j) : b2 dMod (some (.int i)) (some (.int j)) = some (.int (i % j)) := dMod_ok h
theorem pow3_ok {i : Int} (h : i.natAbs < 2 ^ 64) : b2 dPow (some (.int i)) (some (.int 3)) = some (.int (i ^ 3)) := dPow_ok (n := 3) h (by decide)
theorem pow5_ok {i : Int} (h : i.natAbs < 2 ^ 64) : b2 dPow (some (.int i)) (some (.int 5)) = some (.int (i ^ 5)) := dPow_ok (n := 5) h (by decide)
theorem mul_lt {x y a b : Int} (h1 : 0 ≤ x) (h2 : x ≤ a) (h3 : 0 ≤ y) (h4 : y ≤ b) : 0 ≤ x * y ∧ x * y ≤ a * b := ⟨Int.mul_nonneg h1 h3, Int.mul_le_mul h2 h4 h3 (Int.le_trans h1 h2)⟩
theorem spread_ok (c : Int) (i : Nat) (hi : i < 2147483648) : ∃ r : Nat, C2 m__law_spread (some (.int c)) (some (.int (i : Nat))) = some (.int (r : Nat)) := by
  have hpow : b2 dPow (some (PyData.int 10)) (some (.int 18)) = some (.int (10 ^ 18)) := dPow_ok (i := 10) (n := 18) (by decide) (by decide)
  by_cases hc : (10 : Int) ^ 18 ≤ c
  · refine ⟨c.toNat, ?_⟩
    show m__law_spread (.int c) (.int i) = _
    unfold m__law_spread
    have ht : (b2 dGe (some (.int c)) (some (.int (10 ^ 18)))).bind asB = some true := by
      show some (decide _) = _
      rw [decide_eq_true hc]
    rw [hpow, ifO_ok ht]
    rw [if_pos rfl]
    congr 2
    omega
  · show ∃ r : Nat, m__law_spread (.int c) (.int i) = _
    have i0 : (0 : Int) ≤ (i : Int) := Int.natCast_nonneg i
    have i1 : (i : Int) < 2147483648 := by omega
    generalize (i : Int) = i at i0 i1
    have key : ∃ r : Int, 0 ≤ r ∧ m__law_spread (.int c) (.int i) = some (.int r) := by
      unfold m__law_spread
      have ht : (b2 dGe (some (.int c)) (some (.int (10 ^ 18)))).bind asB = some false := by
        show some (decide _) = _
        rw [decide_eq_false hc]
      rw [hpow, ifO_ok ht]
      rw [if_neg (by decide)]
      have hP : ∃ pr : D, ((consO (some (.int 2147483629)) (consO (some (.int 2147483587)) (consO (some (.int 2147483579)) (consO (some (.int 2147483563)) (consO (some (.int 2147483549)) (consO (some (.int 2147483543)) (consO (some (.int 2147483497)) (consO (some (.int 2147483489)) (some []))))))))).map PyData.list) = some pr ∧ b2 dAdd (some pr) ((consO (some (.int 2147483477)) (consO (some (.int 2147483423)) (consO (some (.int 2147483399)) (consO (some (.int 2147483353)) (consO (some (.int 2147483323)) (some [])))))).map PyData.list) = some (.list (primesN.map PyData.int)) := ⟨_, rfl, (if_pos (show (8 : Nat) + 5 ≤ sizeLine by decide) : (if (8 : Nat) + 5 ≤ sizeLine then some (PyData.list (primesN.map PyData.int)) else none) = _)⟩
      obtain ⟨pr, e1, e2⟩ := hP
      rw [pull e1, pull e2]
      have c0 : 0 ≤ c % 1000000007 := Int.emod_nonneg _ (by decide)
      have c1 : c % 1000000007 < 1000000007 := Int.emod_lt_of_pos _ (by decide)
      have d0 : 0 ≤ c % 65537 := Int.emod_nonneg _ (by decide)
      have d1 : c % 65537 < 65537 := Int.emod_lt_of_pos _ (by decide)
      rw [int_ok, mod_ok (i := c) (j := 1000000007) (by decide)]
      rw [mod_ok (i := c) (j := 65537) (by decide)]
      generalize c % 1000000007 = x at c0 c1
      generalize c % 65537 = y at d0 d1
      obtain ⟨m0, m1⟩ := mul_lt (x := x) (y := 2 * i + 69069) (a := 1000000007) (b := 4295036365) c0 (by omega) (by omega) (by omega)
      rw [mul_ok (i := 2) (j := i) (by decide) (by omega), add_ok, mul_ok (i := x) (j := 2 * i + 69069) (by omega) (by omega), mul_ok (i := i) (j := 40503) (by omega) (by decide), add_ok, add_ok]
      generalize x * (2 * i + 69069) = z at m0 m1
      rw [Option.bind_some]
      obtain ⟨p1, hp1, p1a, p1b⟩ := prime_at i
      obtain ⟨p2, hp2, p2a, p2b⟩ := prime_at (i + 5)
      obtain ⟨p3, hp3, p3a, p3b⟩ := prime_at (i + 7)
      rw [hp1, add_ok i 3, add_ok i 5, hp2, add_ok i 7, hp3, pow3_ok (i := z + i * 40503 + 977) (by omega), int_ok, mod_ok p1a, Option.bind_some]
      have o0 : 0 ≤ (z + i * 40503 + 977) ^ 3 % p1 := Int.emod_nonneg _ (by omega)
      have o1 : (z + i * 40503 + 977) ^ 3 % p1 < 2147483648 := Int.lt_trans (Int.emod_lt_of_pos _ p1a) p1b
      generalize (z + i * 40503 + 977) ^ 3 % p1 = u at o0 o1
      obtain ⟨n0, n1⟩ := mul_lt (x := u) (y := i + 3) (a := 2147483648) (b := 2147483651) o0 (by omega) (by omega) (by omega)
      rw [mul_ok (i := u) (j := i + 3) (by omega) (by omega), add_ok, add_ok]
      generalize u * (i + 3) = v at n0 n1
      rw [pow5_ok (i := v + y + 5) (by omega), int_ok, mod_ok p2a, Option.bind_some]
      have t0 : 0 ≤ (v + y + 5) ^ 5 % p2 := Int.emod_nonneg _ (by omega)
      have t1 : (v + y + 5) ^ 5 % p2 < 2147483648 := Int.lt_trans (Int.emod_lt_of_pos _ p2a) p2b
      generalize (v + y + 5) ^ 5 % p2 = w at t0 t1
      have e0 : 0 ≤ u % 1009 := Int.emod_nonneg _ (by decide)
      have e9 : u % 1009 < 1009 := Int.emod_lt_of_pos _ (by decide)
      rw [int_ok, mod_ok (i := u) (j := 1009) (by decide), add_ok, add_ok]
      generalize u % 1009 = s at e0 e9
      rw [pow3_ok (i := w + s + i) (by omega), int_ok, mod_ok p3a, Option.bind_some]
      have f0 : 0 ≤ (w + s + i) ^ 3 % p3 := Int.emod_nonneg _ (by omega)
      generalize (w + s + i) ^ 3 % p3 = r at f0
      rw [mul_ok (i := u) (j := 2147483647) (by omega) (by decide), add_ok, mul_ok (j := 2147483647) (by omega) (by decide), add_ok]
      exact ⟨_, by omega, rfl⟩
    obtain ⟨r, r0, hr⟩ := key
    exact ⟨r.toNat, by rw [hr, Int.toNat_of_nonneg r0]⟩
theorem ifk_t {A B : Nat → Prop} {m : Nat} {b : Bool} (h : b = true) (hA : A m) : (fun (t : Bool) m => if t = true then A m else B m) b m := by
  subst h; exact hA
theorem ifk_f {A B : Nat → Prop} {m : Nat} {b : Bool} (h : b = false) (hB : B m) : (fun (t : Bool) m => if t = true then A m else B m) b m := by
  subst h; exact hB
/-! ### _law_take: a number below the amount -/
@[irreducible] def m__law_take (n : D) : M D := fun q m => ∃ k : Nat, n = .int k ∧ 0 < k ∧ k < 2 ^ 256 ∧ m < 1000000000 ∧ ∀ v : Nat, v < k → q (.int v) (m + 1)
theorem pen_at {cs : List Int} {j i v : Nat} {q : D → Nat → Prop} {d : D} (h : (penD cs i v)[j]? = some d) (hq : q d (enc i v)) : penAt cs j q (enc i v) := ⟨i, v, d, rfl, h, hq⟩
theorem pen_set1 {i v n : Nat} {z : Int} {k : Nat → Prop} (h : z = (n : Int)) (hk : k (enc n v)) : penSet 1 (.int z) k (enc i v) := ⟨i, v, n, rfl, by rw [h], .inl ⟨rfl, hk⟩⟩
theorem pen_set2 {i v n : Nat} {z : Int} {k : Nat → Prop} (h : z = (n : Int)) (hk : k (enc i n)) : penSet 2 (.int z) k (enc i v) := ⟨i, v, n, rfl, by rw [h], .inr ⟨rfl, hk⟩⟩
theorem take_law (cs : List Int) (d : D) (q : D → Nat → Prop) (m i v : Nat) (h : G1 m__law_take [d] q m) (hi : i ≤ m) : b__law_take cs d (fun a n => ∃ i' v' m', n = enc i' v' ∧ i' ≤ m' ∧ q a m') (enc i v) := by
  have h : m__law_take d q m := h
  unfold m__law_take at h
  obtain ⟨k, rfl, k0, k1, hm, hq⟩ := h
  -- the end: from any state of the pen whose i is at most m + 1
  have fin : ∀ i' v' : Nat, i' ≤ m + 1 → ((op2 dMod (appM (consM (penAt cs 2) nilM) (F1 dInt)) (lift (some (.int (k : Nat))))) fun found10 => ((op2 dFdiv (penAt cs 2) (lift (some (.int (k : Nat))))) fun d => penSet 2 d ((lift (some found10)) (fun a n => ∃ i' v' m', n = enc i' v' ∧ i' ≤ m' ∧ q a m')))) (enc i' v') := fun i' v' hi' => by
    refine pen_at (d := .int v') rfl ?_
    refine ⟨_, rfl, _, rfl, _, dMod_ok (by omega), ?_⟩
    refine pen_at (d := .int v') rfl ?_
    refine ⟨_, rfl, _, dFdiv_ok (by omega) (by omega), ?_⟩
    refine pen_set2 (n := v' / k) (by push_cast; rfl) ?_
    refine ⟨_, rfl, i', v' / k, m + 1, rfl, hi', ?_⟩
    have := hq (v' % k) (Nat.mod_lt _ k0)
    have e : ((v' : Int) % (k : Int)) = ((v' % k : Nat) : Int) := by push_cast; rfl
    rw [e]
    exact this
  show ifK _ _ _ (enc i v)
  refine pen_at (d := .int v) rfl ?_
  refine ⟨_, rfl, _, rfl, _, rfl, ?_⟩
  by_cases hv : (v : Int) < k
  · refine ifk_t (decide_eq_true hv) ?_
    refine pen_at (d := .int i) rfl ?_
    refine ⟨_, rfl, ?_⟩
    -- with a cell, whichever it is
    have key : ∀ c : Int, ((lift (b2 dAdd (some (.int (i : Nat))) (some (.int 1)))) fun d => penSet 1 d ((lift (C2 m__law_spread (some (.int c)) (some (.int (i : Nat))))) fun d => penSet 2 d (((op2 dMod (appM (consM (penAt cs 2) nilM) (F1 dInt)) (lift (some (.int (k : Nat))))) fun found10 => ((op2 dFdiv (penAt cs 2) (lift (some (.int (k : Nat))))) fun d => penSet 2 d ((lift (some found10)) (fun a n => ∃ i' v' m', n = enc i' v' ∧ i' ≤ m' ∧ q a m'))))))) (enc i v) := fun c => by
      obtain ⟨r, hr⟩ := spread_ok c i (by omega)
      refine ⟨_, rfl, ?_⟩
      refine pen_set1 (n := i + 1) (by push_cast; rfl) ?_
      refine ⟨_, hr, ?_⟩
      refine pen_set2 (n := r) rfl ?_
      exact fin (i + 1) r (by omega)
    show ifK _ _ _ (enc i v)
    refine ⟨_, rfl, ?_⟩
    refine pen_at (d := .list (cs.map PyData.int)) rfl ?_
    refine ⟨_, rfl, _, rfl, _, rfl, ?_⟩
    by_cases hlt : (i : Int) < cs.length
    · refine ifk_t (decide_eq_true (by simpa using hlt)) ?_
      refine pen_at (d := .list (cs.map PyData.int)) rfl ?_
      refine ⟨_, rfl, .int (cs[i]'(by omega)), ?_, key _⟩
      rw [dIx_list (by omega) (by simpa using hlt)]
      simp [show i < cs.length by omega]
    · refine ifk_f (decide_eq_false (by simpa using hlt)) ?_
      refine pen_at (d := .list (cs.map PyData.int)) rfl ?_
      refine ⟨_, rfl, _, rfl, _, rfl, _, rfl, ?_⟩
      by_cases hz : 0 < cs.length
      · refine ifk_t (decide_eq_true (by simpa using hz)) ?_
        refine pen_at (d := .list (cs.map PyData.int)) rfl ?_
        have g1 : C1 dInt (b2 dAdd (b2 dMul (some (.int (i : Nat))) (some (.int 5))) (some (.int 3))) = some (.int ((i : Int) * 5 + 3)) := by
          rw [show b2 dMul (some (.int (i : Nat))) (some (.int 5)) = some (.int ((i : Int) * 5)) from dMul_ok (by omega) (by decide)]
          rfl
        refine ⟨_, g1, ?_⟩
        refine pen_at (d := .list (cs.map PyData.int)) rfl ?_
        refine ⟨_, rfl, _, dMod_ok (by simpa using hz), ?_⟩
        have hl : (cs.map PyData.int).length = cs.length := by simp
        have m0 : 0 ≤ ((i : Int) * 5 + 3) % ((cs.map PyData.int).length : Int) := Int.emod_nonneg _ (by omega)
        have m1 : ((i : Int) * 5 + 3) % ((cs.map PyData.int).length : Int) < (cs.map PyData.int).length := Int.emod_lt_of_pos _ (by omega)
        have hg : ∃ c : Int, dIx (.list (cs.map PyData.int)) (.int (((i : Int) * 5 + 3) % ((cs.map PyData.int).length : Int))) = some (.int c) := by
          rw [dIx_list m0 m1]
          refine ⟨cs[(((i : Int) * 5 + 3) % ((cs.map PyData.int).length : Int)).toNat]'(by omega), ?_⟩
          simp [show (((i : Int) * 5 + 3) % ((cs.map PyData.int).length : Int)).toNat < cs.length by omega]
        obtain ⟨c, hc⟩ := hg
        have g2 : b2 dAdd (b2 dPow (some (.int 10)) (some (.int 17))) (some (.int (i : Nat))) = some (.int ((10 : Int) ^ 17 + i)) := by
          rw [show b2 dPow (some (.int 10)) (some (.int 17)) = some (.int ((10 : Int) ^ 17)) from dPow_ok (i := 10) (n := 17) (by decide) (by decide)]
          rfl
        refine ⟨_, hc, _, rfl, _, g2, _, dMod_ok (by omega), key _⟩
      · refine ifk_f (decide_eq_false (by simpa using hz)) ?_
        exact key _
  · refine ifk_f (decide_eq_false hv) ?_
    exact fin i v (by omega)
end Dl

set_option Elab.async false
set_option linter.all false
set_option autoImplicit false
set_option maxRecDepth 100000
set_option maxHeartbeats 1000000
namespace Dl
open PySem L2 PySem.Spec PyProof.Rows

/-! ### list(range(..)), tuple(range(..)) -/
def rgOk (a b : Int) : Bool := decide (-(2 ^ 62) ≤ a ∧ a < 2 ^ 62 ∧ -(2 ^ 62) ≤ b ∧ b < 2 ^ 62 ∧ (b - a).toNat ≤ 2 ^ 24)
theorem rgOk_is {a b : Int} (h : rgOk a b = true) : RgOk a b := by
  unfold rgOk at h
  show -(2 ^ 62) ≤ a ∧ a < 2 ^ 62 ∧ -(2 ^ 62) ≤ b ∧ b < 2 ^ 62 ∧ (b - a).toNat ≤ 2 ^ 24
  exact of_decide_eq_true h
def dRg1 : D → Option (List D)
  | .int n => if rgOk 0 n = true then some (rangeD 0 n) else none
  | _ => none
def dRg2 : D → D → Option (List D)
  | .int a, .int b => if rgOk a b = true then some (rangeD a b) else none
  | _, _ => none
theorem rg_rp {G : Hp} (a b : Int) : RpL G (rgV a b) (rangeD a b) := by
  have e1 : rgV a b = ((List.range (b - a).toNat).map fun (i : Nat) => a + (i : Int)).map V.int := by unfold rgV; rw [List.map_map]; rfl
  have e2 : rangeD a b = ((List.range (b - a).toNat).map fun (i : Nat) => a + (i : Int)).map PyData.int := by unfold rangeD; rw [List.map_map]; rfl
  rw [e1, e2]
  exact RpL.ofInts
section
variable {X : Cx} {R : Res} {ρ : List Cell} {a b : Expr} {pos p p2 pos2 : Pos} {k : Nat}
theorem jl_rg1 {T : M D} (B : Bx X k) (hm : X.mg "list" = none) (hr : X.mg "range" = none) (ha : JM X R ρ a T) (hg : Gl X "list" := by rfl) (hgr : Gl X "range" := by rfl) (na : starEach [a] X.env = (false, eval a X.env) :: starEach [] X.env := by rfl)
    (nb : starEach [.Call (.Name "range" p2) [a] [] pos2] X.env = (false, eval (.Call (.Name "range" p2) [a] [] pos2) X.env) :: starEach [] X.env := by rfl) : JL X R ρ (.Call (.Name "list" p) [.Call (.Name "range" p2) [a] [] pos2] [] pos) (bindM T dRg1) := by
  refine PE.imp (pe_listRg B.hc hg hm (prg_1 hgr hr ha na) nb) fun σ H Q ⟨G, m, q, S, t, k⟩ => ⟨G, m, _, S, t, fun v d G1 H1 m1 S1 g1 r1 q1 => ?_⟩
  obtain ⟨ds, hd, q1⟩ := q1
  cases r1 with
  | int n =>
    simp only [dRg1, Option.ite_none_right_eq_some, Option.some.injEq] at hd
    obtain ⟨hz, rfl⟩ := hd
    refine ⟨n, rfl, rgOk_is hz, fun l hl => ?_⟩
    obtain ⟨g2, s2⟩ := grow_own S1.gh hl (.lst (rgV 0 n))
    obtain ⟨S2, g2'⟩ := S1.growS g2 s2
    exact k l _ _ G1 _ m1 S2 (g1.trans S1.vh g2') (free_of g1 S1.vh hl) (S1.gh.free hl) upd_same (rg_rp 0 n) q1
  | _ => cases hd
theorem jle_rg1 {o : Option D} (B : Bx X k) (hm : X.mg "list" = none) (hr : X.mg "range" = none) (ha : JE X R ρ a o) (hg : Gl X "list" := by rfl) (hgr : Gl X "range" := by rfl) (na : starEach [a] X.env = (false, eval a X.env) :: starEach [] X.env := by rfl)
    (nb : starEach [.Call (.Name "range" p2) [a] [] pos2] X.env = (false, eval (.Call (.Name "range" p2) [a] [] pos2) X.env) :: starEach [] X.env := by rfl) : JLE X R ρ (.Call (.Name "list" p) [.Call (.Name "range" p2) [a] [] pos2] [] pos) (C1 dRg1 o) := (jl_rg1 B hm hr ha hg hgr na nb).imp fun _ _ => lift1
theorem jl_rg2 {T T2 : M D} (B : Bx X k) (hm : X.mg "list" = none) (hr : X.mg "range" = none) (ha : JM X R ρ a T) (hb : JM X R ρ b T2) (hg : Gl X "list" := by rfl) (hgr : Gl X "range" := by rfl) (na : starEach [a, b] X.env = (false, eval a X.env) :: starEach [b] X.env := by rfl)
    (na2 : starEach [b] X.env = (false, eval b X.env) :: starEach [] X.env := by rfl) (hp : (backTo pos2 (starEach [b] X.env)).any (·.1) = false := by rfl)
    (nb : starEach [.Call (.Name "range" p2) [a, b] [] pos2] X.env = (false, eval (.Call (.Name "range" p2) [a, b] [] pos2) X.env) :: starEach [] X.env := by rfl) : JL X R ρ (.Call (.Name "list" p) [.Call (.Name "range" p2) [a, b] [] pos2] [] pos) (fun q => T fun x => T2 fun y m => lift (dRg2 x y) q m) := by
  refine PE.imp (pe_listRg B.hc hg hm (prg_2 hgr hr ha hb na na2 hp) nb) fun σ H Q ⟨G, m, q, S, t, k⟩ => ⟨G, m, _, S, t, fun v d G1 H1 m1 S1 g1 r1 q1 => ⟨G1, m1, _, S1, q1, fun w e G2 H2 m2 S2 g2 r2 q2 => ?_⟩⟩
  obtain ⟨ds, hd, q2⟩ := q2
  cases r1 with
  | int i =>
    cases r2 with
    | int j =>
      simp only [dRg2, Option.ite_none_right_eq_some, Option.some.injEq] at hd
      obtain ⟨hz, rfl⟩ := hd
      refine ⟨i, j, rfl, rfl, rgOk_is hz, fun l hl => ?_⟩
      obtain ⟨g3, s3⟩ := grow_own S2.gh hl (.lst (rgV i j))
      obtain ⟨S3, g3'⟩ := S2.growS g3 s3
      have g := g1.trans S1.vh g2
      exact k l _ _ G2 _ m2 S3 (g.trans S2.vh g3') (free_of g S2.vh hl) (S2.gh.free hl) upd_same (rg_rp i j) q2
    | _ => cases hd
  | _ => cases hd
theorem jle_rg2 {o o2 : Option D} (B : Bx X k) (hm : X.mg "list" = none) (hr : X.mg "range" = none) (ha : JE X R ρ a o) (hb : JE X R ρ b o2) (hg : Gl X "list" := by rfl) (hgr : Gl X "range" := by rfl) (na : starEach [a, b] X.env = (false, eval a X.env) :: starEach [b] X.env := by rfl)
    (na2 : starEach [b] X.env = (false, eval b X.env) :: starEach [] X.env := by rfl) (hp : (backTo pos2 (starEach [b] X.env)).any (·.1) = false := by rfl)
    (nb : starEach [.Call (.Name "range" p2) [a, b] [] pos2] X.env = (false, eval (.Call (.Name "range" p2) [a, b] [] pos2) X.env) :: starEach [] X.env := by rfl) : JLE X R ρ (.Call (.Name "list" p) [.Call (.Name "range" p2) [a, b] [] pos2] [] pos) (C2 dRg2 o o2) := (jl_rg2 B hm hr ha hb hg hgr na na2 hp nb).imp fun q m h => by
  obtain ⟨x, h1, h2⟩ := lift1 h
  obtain ⟨y, h3, h4⟩ := lift1 h2
  exact ⟨x, h1, y, h3, h4⟩
theorem jm_tg1 {T : M D} (B : Bx X k) (hm : X.mg "tuple" = none) (hr : X.mg "range" = none) (ha : JM X R ρ a T) (hg : Gl X "tuple" := by rfl) (hgr : Gl X "range" := by rfl) (na : starEach [a] X.env = (false, eval a X.env) :: starEach [] X.env := by rfl)
    (nb : starEach [.Call (.Name "range" p2) [a] [] pos2] X.env = (false, eval (.Call (.Name "range" p2) [a] [] pos2) X.env) :: starEach [] X.env := by rfl) : JM X R ρ (.Call (.Name "tuple" p) [.Call (.Name "range" p2) [a] [] pos2] [] pos) (bindM T fun d => (dRg1 d).map PyData.tuple) := by
  refine PE.imp (pe_tupRg B.hc hg hm (prg_1 hgr hr ha na) nb) fun σ H Q ⟨G, m, q, S, t, k⟩ => ⟨G, m, _, S, t, fun v d G1 H1 m1 S1 g1 r1 q1 => ?_⟩
  obtain ⟨z, hd, q1⟩ := q1
  cases r1 with
  | int n =>
    obtain ⟨ds, hd2, hz2⟩ := Option.map_eq_some_iff.mp (show (dRg1 (.int n)).map PyData.tuple = some z from hd)
    clear hd
    subst hz2
    have hd := hd2
    simp only [dRg1, Option.ite_none_right_eq_some, Option.some.injEq] at hd
    obtain ⟨hz, e⟩ := hd
    subst e
    refine ⟨n, rfl, rgOk_is hz, fun l hl => ?_⟩
    obtain ⟨g2, s2⟩ := grow_new S1.gh hl (.tup (rgV 0 n))
    obtain ⟨S2, g2'⟩ := S1.growS g2 s2
    exact k _ _ _ _ m1 S2 (g1.trans S1.vh g2') (.tup upd_same (rg_rp 0 n)) q1
  | _ =>
    obtain ⟨ds, hd2, _⟩ := Option.map_eq_some_iff.mp hd
    cases hd2
theorem je_tg1 {o : Option D} (B : Bx X k) (hm : X.mg "tuple" = none) (hr : X.mg "range" = none) (ha : JE X R ρ a o) (hg : Gl X "tuple" := by rfl) (hgr : Gl X "range" := by rfl) (na : starEach [a] X.env = (false, eval a X.env) :: starEach [] X.env := by rfl)
    (nb : starEach [.Call (.Name "range" p2) [a] [] pos2] X.env = (false, eval (.Call (.Name "range" p2) [a] [] pos2) X.env) :: starEach [] X.env := by rfl) : JE X R ρ (.Call (.Name "tuple" p) [.Call (.Name "range" p2) [a] [] pos2] [] pos) (C1 (fun d => (dRg1 d).map PyData.tuple) o) := (jm_tg1 B hm hr ha hg hgr na nb).imp fun _ _ => lift1
end
end Dl

set_option Elab.async false
set_option linter.all false
set_option autoImplicit false
set_option maxRecDepth 100000
set_option maxHeartbeats 1000000
namespace Dl
open PySem L2 PySem.Spec PyProof.Rows
open PySem.W (AlikeAll maxD minD maxD_ints minD_ints max_list_data max_tuple_data min_list_data min_tuple_data alike)

/-! ### max(xs), min(xs) of ints in a list or a tuple -/
theorem alike_ints (n : Int) (ns : List Int) : AlikeAll (.int n :: ns.map PyData.int) := by
  have key : ∀ x ∈ (PyData.int n :: ns.map PyData.int), ∃ i, x = .int i := by
    intro x hx
    rcases List.mem_cons.mp hx with rfl | hx
    · exact ⟨_, rfl⟩
    · obtain ⟨i, _, rfl⟩ := List.mem_map.mp hx
      exact ⟨i, rfl⟩
  refine ⟨fun x hx y hy => ?_, fun x hx => ?_⟩
  · obtain ⟨i, rfl⟩ := key x hx
    obtain ⟨j, rfl⟩ := key y hy
    rfl
  · obtain ⟨i, rfl⟩ := key x hx
    exact fun z => nomatch z
theorem reads_ints {h : Heap} : ∀ {ns : List Int} {us : List Value}, Vals (ns.map V.int) us → ∃ as, ReadsAll h us (ns.map PyData.int) as
  | [], _, .nil => ⟨_, .nil⟩
  | n :: ns, _, .cons r rs => by
    obtain ⟨as, q⟩ := reads_ints rs
    obtain ⟨t, rfl⟩ := r
    exact ⟨_, .cons (.int _ _) q⟩
def rBest (K : PySem.W.Frag) (f : Int → Int → Int) : List V → Hp → VK → Prop := fun vs H Q => ∃ (a : Addr) (n : Int) (ns : List Int), vs = [V.ref a] ∧ (SqL K H a ((n :: ns).map V.int) ∨ SqT K H a ((n :: ns).map V.int)) ∧ Q (.int (ns.foldl f n)) H
theorem depth_all_ints (n : Int) (ns : List Int) : PyData.depthAll (.int n :: ns.map PyData.int) = 0 := PySem.W.depth_ints (n :: ns)
theorem cr_maxA {X : Cx} (hc : X.calm = true) (hu : X.A.units + 64 < cLine) : CallR X (.builtin "max") (rBest X.K max) := by
  intro pins s σ H vs us Q I r h
  obtain ⟨a, n, ns, rfl, hs, q⟩ := h
  rw [Vals.ref1 r]
  have fin : ∀ (v : Value) (h' : Heap) (tk : Nat) (bs : List Addr), Reads h' v (maxD (.int n) (ns.map PyData.int)) bs → (∀ b o, s.heap.get? b = some o → h'.get? b = some o) → EP X pins σ Q v { s with heap := h', toks := tk } := fun v h' tk bs rd hk => by
    rw [maxD_ints] at rd
    cases rd
    exact ⟨.int _, H, I.kept hk, ⟨_, rfl⟩, q⟩
  rcases hs with hs | hs
  · obtain ⟨its, rv, hl, _⟩ := I.list hs
    obtain ⟨as, rd⟩ := reads_ints (h := s.heap) rv
    exact max_list_data (I.ok.hd hc) hl.isList (vs := its.toArray) (x := .int n) (xs := ns.map PyData.int) rd (alike_ints n ns) (by rw [depth_all_ints]; omega) fun i v h' tk bs _ rd hk => fin v h' tk bs rd hk
  · obtain ⟨its, rv, hl, _⟩ := I.tuple hs
    obtain ⟨as, rd⟩ := reads_ints (h := s.heap) rv
    exact max_tuple_data (I.ok.hd hc) (show s.heap.IsTuple a its.toArray from hl) (x := .int n) (xs := ns.map PyData.int) rd (alike_ints n ns) (by rw [depth_all_ints]; omega) fun i v h' tk bs _ rd hk => fin v h' tk bs rd hk
theorem cr_minA {X : Cx} (hc : X.calm = true) (hu : X.A.units + 64 < cLine) : CallR X (.builtin "min") (rBest X.K min) := by
  intro pins s σ H vs us Q I r h
  obtain ⟨a, n, ns, rfl, hs, q⟩ := h
  rw [Vals.ref1 r]
  have fin : ∀ (v : Value) (h' : Heap) (tk : Nat) (bs : List Addr), Reads h' v (minD (.int n) (ns.map PyData.int)) bs → (∀ b o, s.heap.get? b = some o → h'.get? b = some o) → EP X pins σ Q v { s with heap := h', toks := tk } := fun v h' tk bs rd hk => by
    rw [minD_ints] at rd
    cases rd
    exact ⟨.int _, H, I.kept hk, ⟨_, rfl⟩, q⟩
  rcases hs with hs | hs
  · obtain ⟨its, rv, hl, _⟩ := I.list hs
    obtain ⟨as, rd⟩ := reads_ints (h := s.heap) rv
    exact min_list_data (I.ok.hd hc) hl.isList (vs := its.toArray) (x := .int n) (xs := ns.map PyData.int) rd (alike_ints n ns) (by rw [depth_all_ints]; omega) fun i v h' tk bs _ rd hk => fin v h' tk bs rd hk
  · obtain ⟨its, rv, hl, _⟩ := I.tuple hs
    obtain ⟨as, rd⟩ := reads_ints (h := s.heap) rv
    exact min_tuple_data (I.ok.hd hc) (show s.heap.IsTuple a its.toArray from hl) (x := .int n) (xs := ns.map PyData.int) rd (alike_ints n ns) (by rw [depth_all_ints]; omega) fun i v h' tk bs _ rd hk => fin v h' tk bs rd hk
def dBest (f : Int → Int → Int) (d : D) : Option D := (dItems d).bind fun xs => match intsOf xs with
  | some (n :: ns) => some (.int (ns.foldl f n))
  | _ => none
theorem cd_best {K : PySem.W.Frag} {f : Int → Int → Int} : CallD (rBest K f) (F1 (dBest f)) := by
  intro G H vs ds z Q gh r hF k
  cases r with
  | nil => cases hF
  | cons a b =>
    cases b with
    | cons _ _ => cases hF
    | nil =>
      have hF : dBest f _ = some z := hF
      have key : ∀ {ds : List D} {vs : List V}, RpL G vs ds → (match intsOf ds with | some (n :: ns) => some (PyData.int (ns.foldl f n)) | _ => none) = some z → ∃ n ns, vs = ((n :: ns).map V.int) ∧ z = .int (ns.foldl f n) := fun {ds vs} r h => by
        split at h
        · rename_i n ns e
          cases h
          have e' := intsOf_eq e
          subst e'
          exact ⟨n, ns, RpL.ints (ns := n :: ns) r, rfl⟩
        · cases h
      cases a with
      | @lst p vs ds hp r =>
        obtain ⟨n, ns, e, rfl⟩ := key r hF
        subst e
        exact ⟨p, n, ns, rfl, .inl (SqL.of (gh _ _ hp)), k _ G H (Grow.refl _ _ _) gh (.int _)⟩
      | @tup p vs ds hp r =>
        obtain ⟨n, ns, e, rfl⟩ := key r hF
        subst e
        exact ⟨p, n, ns, rfl, .inr (SqT.of (gh _ _ hp)), k _ G H (Grow.refl _ _ _) gh (.int _)⟩
      | _ => cases hF

/-! ### sorted(xs) of alike data -/
def srtOk (ds : List D) : Bool := (ds.all fun d => ds.all fun e => alike d e) && ((ds.all fun d => match d with | .tuple (_ :: _) => true | _ => false) || (ds.all fun d => match d with | .none => false | .tuple _ => false | _ => true)) && decide (ds.length ≤ sizeLine) && (ds.all fun d => decide (d.depth ≤ 62))
def srtD (ds : List D) : List D := ds.mergeSort (PySem.W.dataLe false id)
def dSorted : D → Option (List D)
  | .list ds => if srtOk ds = true then some (srtD ds) else none
  | _ => none
theorem each_zip {h : Heap} : ∀ {xs : List V} {us : List Value} {ds : List D} {as : List Addr}, Vals xs us → ReadsAll h us ds as → PySem.W.EachIs (fun v (b : V × D) => RelV b.1 v) us (xs.zip ds) ∧ PySem.W.EachIs (fun v (b : V × D) => ∃ as, Reads h v b.2 as) us (xs.zip ds)
  | _, _, _, _, .nil, .nil => ⟨.nil, .nil⟩
  | _, _, _, _, .cons r rs, .cons q qs => ⟨.cons r (each_zip rs qs).1, .cons ⟨_, q⟩ (each_zip rs qs).2⟩
theorem each_vals : ∀ {bs : List (V × D)} {us : List Value}, PySem.W.EachIs (fun v (b : V × D) => RelV b.1 v) us bs → Vals (bs.map Prod.fst) us
  | [], _, .nil => .nil
  | _ :: _, _, .cons r rs => .cons r (each_vals rs)
def rSortedD (K : PySem.W.Frag) : List V → Hp → VK → Prop := fun vs H Q => ∃ (a : Addr) (xs : List V) (ds : List D), vs = [V.ref a] ∧ SqL K H a xs ∧ DpAll K H xs ds ∧ srtOk ds = true ∧ ∀ p, H p = none → Q (.ref p) (upd H p (.lst (((xs.zip ds).mergeSort (PySem.W.dataLe false Prod.snd)).map Prod.fst)))
theorem cr_sortedD {X : Cx} (hu : X.A.units + 64 < cLine) : CallR X (.builtin "sorted") (rSortedD X.K) := by
  intro pins s σ H vs us Q I r h
  obtain ⟨a, xs, ds, rfl, hs, hd, ok, q⟩ := h
  obtain ⟨its, rv, hl, hz⟩ := I.list hs
  rw [Vals.ref1 r]
  obtain ⟨as, rd⟩ := Dp.readsAll I ds xs its hd rv
  obtain ⟨e1, e2⟩ := each_zip rv rd
  have hlen : xs.length = ds.length := by
    have h1 := rv.length
    have h2 := SeqAt.ReadsAll.length ds its as rd
    omega
  have hmap : (xs.zip ds).map Prod.snd = ds := List.map_snd_zip (by omega)
  simp only [srtOk, Bool.and_eq_true, Bool.or_eq_true, List.all_eq_true, decide_eq_true_eq] at ok
  obtain ⟨⟨⟨o1, o2⟩, o3⟩, o4⟩ := ok
  refine PySem.W.sorted_data (R := fun v (b : V × D) => RelV b.1 v) (enc := Prod.snd) (vs := its) hl.isList e1 e2 ?_ ?_ ?_ ?_ fun out hlo eo => ?_
  · rw [hmap]
    exact fun d hd e he => o1 d hd e he
  · rw [hmap]
    rcases o2 with o | o
    · refine .inl fun d hd => ?_
      have := o d hd
      split at this
      · exact ⟨_, _, rfl⟩
      · cases this
    · refine .inr fun d hd => ?_
      have := o d hd
      split at this
      · cases this
      · cases this
      · rename_i n1 n2
        exact ⟨n1, n2⟩
  · rw [List.length_zip]; omega
  · intro b hb
    have hb2 : b.2 ∈ ds := by
      rw [← hmap]
      exact List.mem_map_of_mem hb
    have := o4 b.2 hb2
    omega
  · obtain ⟨ep, he'⟩ := PyProof.Rows.sortedAll_at s.heap its out.toArray
    have hv := each_vals eo
    have hl2 : (((xs.zip ds).mergeSort (PySem.W.dataLe false Prod.snd)).map Prod.fst).length ≤ sizeLine := by
      rw [List.length_map, List.length_mergeSort, List.length_zip]; omega
    exact ⟨.ref _, upd H (s.heap.objs.size + 1) (.lst _), I.laid (t' := s.toks) (fun _ _ => PyProof.Rows.sortedAll_old) (Nat.le_succ _) ⟨hl2, out, ep, hv, he'⟩, rfl, q _ (I.hok.fresh (Nat.le_succ _))⟩
theorem zip_rp {G : Hp} : ∀ {xs : List V} {ds : List D}, RpL G xs ds → ∀ b ∈ xs.zip ds, Rp G b.1 b.2
  | _, _, .nil, b, h => by simp at h
  | _, _, .cons r rs, b, h => by
    rcases List.mem_cons.mp h with rfl | h
    · exact r
    · exact zip_rp rs b h
theorem rp_unzip {G : Hp} : ∀ {bs : List (V × D)}, (∀ b ∈ bs, Rp G b.1 b.2) → RpL G (bs.map Prod.fst) (bs.map Prod.snd)
  | [], _ => .nil
  | b :: bs, h => .cons (h b List.mem_cons_self) (rp_unzip fun c hc => h c (List.mem_cons_of_mem _ hc))
theorem cd_sortedD {K : PySem.W.Frag} : CallDL (rSortedD K) (F1 dSorted) := by
  intro G H vs ds z Q gh r hF k
  cases r with
  | nil => cases hF
  | cons a b =>
    cases b with
    | cons _ _ => cases hF
    | nil =>
      cases a with
      | @lst p xs ds hp r =>
        have hF : (if srtOk ds = true then some (srtD ds) else none) = some z := hF
        by_cases ok : srtOk ds = true
        · rw [if_pos ok] at hF
          cases hF
          refine ⟨p, xs, ds, rfl, SqL.of (gh _ _ hp), (r.mono gh).dp, ok, fun l hl => ?_⟩
          obtain ⟨g, s⟩ := grow_own gh hl (.lst (((xs.zip ds).mergeSort (PySem.W.dataLe false Prod.snd)).map Prod.fst))
          refine k l _ G _ g s hl (gh.free hl) upd_same ?_
          have e : srtD ds = ((xs.zip ds).mergeSort (PySem.W.dataLe false Prod.snd)).map Prod.snd := by
            unfold srtD
            have e1 := List.map_mergeSort (f := Prod.snd) (r := PySem.W.dataLe false (Prod.snd : V × D → D)) (s := PySem.W.dataLe false id) (l := xs.zip ds) (fun a _ b _ => rfl)
            rw [List.map_snd_zip (by rw [r.length]; exact Nat.le_refl _)] at e1
            exact e1.symm
          rw [e]
          exact rp_unzip fun b hb => zip_rp r b ((List.mergeSort_perm _ _).mem_iff.mp hb)
        · rw [if_neg ok] at hF; cases hF
      | _ => cases hF
end Dl

set_option Elab.async false
set_option linter.all false
set_option autoImplicit false
set_option maxRecDepth 100000
set_option maxHeartbeats 1000000
namespace Dl
open PySem L2

/-! ### xs * n -/
def dRep : D → D → Option D
  | .list xs, .int k => if decide (-(2 ^ 63) ≤ k ∧ k < 2 ^ 63 ∧ xs.length * k.toNat ≤ sizeLine) = true then some (.list (List.replicate k.toNat xs).flatten) else none
  | .tuple xs, .int k => if decide (xs ≠ [] ∧ 2 ≤ k ∧ k ≤ 1000 ∧ xs.length ≤ 1000) = true then some (.tuple (List.replicate k.toNat xs).flatten) else none
  | _, _ => none
theorem rep_rp {G : Hp} {vs : List V} {ds : List D} (r : RpL G vs ds) : ∀ n : Nat, RpL G (List.replicate n vs).flatten (List.replicate n ds).flatten
  | 0 => .nil
  | n + 1 => by
    rw [List.replicate_succ, List.replicate_succ, List.flatten_cons, List.flatten_cons]
    exact r.append (rep_rp r n)
theorem or_rep {X : Cx} : OpR X (binaryOp .Mult) (fun x y H Q => rRep x y H Q ∨ rRepT X.K x y H Q) := op_rep.or op_repT
theorem od_rep {K : PySem.W.Frag} : OpD (fun x y H Q => rRep x y H Q ∨ rRepT K x y H Q) dRep := by
  intro G H x y d e z Q gh rx ry hf k
  cases rx with
  | @lst p vs ds hp r =>
    cases ry with
    | int n =>
      simp only [dRep, Option.ite_none_right_eq_some, Option.some.injEq, decide_eq_true_eq] at hf
      obtain ⟨⟨h1, h2, h3⟩, rfl⟩ := hf
      refine .inl ⟨p, n, vs, rfl, rfl, gh _ _ hp, h1, h2, by rw [r.length]; exact h3, fun q hq => ?_⟩
      obtain ⟨g, s⟩ := grow_new gh hq (.lst (List.replicate n.toNat vs).flatten)
      exact k _ _ _ g s (.lst upd_same ((rep_rp r _).mono g.gg))
    | _ => cases hf
  | @tup p vs ds hp r =>
    cases ry with
    | int n =>
      simp only [dRep, Option.ite_none_right_eq_some, Option.some.injEq, decide_eq_true_eq] at hf
      obtain ⟨⟨h0, h1, h2, h3⟩, rfl⟩ := hf
      have rl := r.length
      refine .inr ⟨p, n, vs, rfl, rfl, SqT.of (gh _ _ hp), fun e => ?_, h1, h2, by rw [rl]; exact h3, fun q hq => ?_⟩
      · subst e
        cases ds with
        | nil => exact h0 rfl
        | cons _ _ => cases rl
      obtain ⟨g, s⟩ := grow_new gh hq (.tup (List.replicate n.toNat vs).flatten)
      exact k _ _ _ g s (.tup upd_same ((rep_rp r _).mono g.gg))
    | _ => cases hf
  | _ => cases hf

/-! ### v.append(w.pop(e)) -/
section
variable {α : Type} {X : Cx} {R : Res} {rk : RK α} {ρ : List Cell} {rest : List Stmt} {κ : Kt} {q : α → Nat → Prop} {e : Expr} {pos p1 p2 p3 p4 p5 p6 : Pos} {x y : Str} {ds es : List D}
def popK (T : M D) (ds es : List D) (k : List D → List D → Nat → Prop) : Nat → Prop := T fun z m => ∃ n j d, z = .int n ∧ -(2 ^ 63) ≤ n ∧ n < 2 ^ 63 ∧ ixN es.length n = some j ∧ es[j]? = some d ∧ ds.length < sizeLine ∧ k (ds ++ [d]) (es.eraseIdx j) m
theorem jk_appPop {T : M D} (i j : Nat) {k : List D → List D → Nat → Prop} (he : JM X R ρ e T) (hr : ∀ ds es, JK X R rk ((ρ.set j (.own es)).set i (.own ds)) rest κ q (k ds es)) (hij : i ≠ j := by decide) (hρ : ρ[i]? = some (.own ds) := by rfl) (hρ2 : ρ[j]? = some (.own es) := by rfl) (hN : X.N[i]? = some x := by rfl) (hN2 : X.N[j]? = some y := by rfl)
    (hv : Vis X.env.scope x := by first | exact Or.inl rfl | exact Or.inr (Or.inl rfl) | exact Or.inr (Or.inr rfl)) (hd : (x == ("__debug__" : Str)) = false := by decide) (hcd : (x == ("__classdict__" : Str)) = false := by decide)
    (hv2 : Vis X.env.scope y := by first | exact Or.inl rfl | exact Or.inr (Or.inl rfl) | exact Or.inr (Or.inr rfl)) (hd2 : (y == ("__debug__" : Str)) = false := by decide) (hcd2 : (y == ("__classdict__" : Str)) = false := by decide)
    (hs : swapsWith (.Call (.Attribute (.Name x p1) "append" p2) [.Call (.Attribute (.Name y p4) "pop" p5) [e] [] p6] [] p3) none pos.line X.env = pure false := by rfl) (hbase : attributeBase (.Name x p1) "append" X.env (eval (.Name x p1) X.env) = eval (.Name x p1) X.env := by rfl)
    (hfew : ((backTo p3 (starEach (.Call (.Attribute (.Name y p4) "pop" p5) [e] [] p6 :: []) X.env)).all (fun x => !x.1) && (backToKw p3 (keywordEach [] X.env)).all (fun x => x.1.isSome) && decide ((.Call (.Attribute (.Name y p4) "pop" p5) [e] [] p6 :: ([] : List Expr)).length + ([] : List Keyword).length + (if ([] : List Keyword).isEmpty then 0 else 1) < 30)) = true := by rfl)
    (hline : (p2.endLine == p3.line) = true := by rfl) (hst : starEach (.Call (.Attribute (.Name y p4) "pop" p5) [e] [] p6 :: []) X.env = (false, eval (.Call (.Attribute (.Name y p4) "pop" p5) [e] [] p6) X.env) :: starEach [] X.env := by rfl) (hpl : (backTo p3 (starEach [] X.env)).any (·.1) = false := by rfl)
    (hbase2 : attributeBase (.Name y p4) "pop" X.env (eval (.Name y p4) X.env) = eval (.Name y p4) X.env := by rfl)
    (hfew2 : ((backTo p6 (starEach (e :: []) X.env)).all (fun x => !x.1) && (backToKw p6 (keywordEach [] X.env)).all (fun x => x.1.isSome) && decide ((e :: ([] : List Expr)).length + ([] : List Keyword).length + (if ([] : List Keyword).isEmpty then 0 else 1) < 30)) = true := by rfl)
    (hline2 : (p5.endLine == p6.line) = true := by rfl) (hst2 : starEach (e :: []) X.env = (false, eval e X.env) :: starEach [] X.env := by rfl) (hpl2 : (backTo p6 (starEach [] X.env)).any (·.1) = false := by rfl) :
    JK X R rk ρ (.Expr (.Call (.Attribute (.Name x p1) "append" p2) [.Call (.Attribute (.Name y p4) "pop" p5) [e] [] p6] [] p3) pos :: rest) κ q (popK T ds es k) :=
  PSs.imp (pss_cons (ps_expr (pe_bm PySem.F.plainAttrs_list PySem.F.slot_list_append PySem.F.type_list_append mt_append (pe_var (i := i) hN hv hd hcd) (pa_cons (pe_bm PySem.F.plainAttrs_list PySem.F.slot_list_pop PySem.F.type_list_pop mt_popAt (pe_var (i := j) hN2 hv2 hd2 hcd2) (pa_cons he pa_nil hst2) hbase2 hfew2 hline2 hst2 hpl2) pa_nil hst) hbase hfew hline hst hpl) hs) (pss_any fun z : List D × List D => hr z.1 z.2)) fun Dn σ H ⟨Gb, G, m, S, g, t, ls⟩ => by
    obtain ⟨l, vs, e1, gl, nv, en, hl, rv⟩ := S.ownT hρ
    obtain ⟨l2, ws, e2, gl2, nv2, en2, hl2, rw2⟩ := S.ownT hρ2
    refine ⟨.ref l, e1, .inl ⟨rfl, _, .inl (.inl hl)⟩, .ref l2, e2, .inl ⟨rfl, _, .inl (.inl hl2)⟩, G, m, _, S, t, fun v d G1 H1 m1 S1 g1 r1 q1 => ?_⟩
    obtain ⟨n, jj, d, rfl, n1, n2, hj, hdj, hz, q1⟩ := q1
    cases r1
    have h2 := g1.hh l2 _ nv2 hl2
    have rw3 := rw2.mono g1.gg
    have h1 := g1.hh l _ nv hl
    have rv1 := rv.mono g1.gg
    obtain ⟨u, hu, ru⟩ := rw3.get hdj
    have ne : l ≠ l2 := fun z => hij (S.apart i j ds es l hρ hρ2 e1 (by rw [e2, z]))
    have hj2 : ixN ws.length n = some jj := by rw [rw2.length]; exact hj
    obtain ⟨S2, gg2⟩ := S1.write (vs := ws.eraseIdx jj) hρ2 e2 (rw3.eraseIdx jj)
    have hρ' : (ρ.set j (.own (es.eraseIdx jj)))[i]? = some (.own ds) := by rw [List.getElem?_set_ne (Ne.symm hij)]; exact hρ
    obtain ⟨S3, gg3⟩ := S2.write (vs := vs ++ [u]) hρ' e1 (rv1.append (.cons ru .nil))
    refine ⟨l2, ws, n, jj, u, rfl, rfl, h2, n1, n2, (ixN_seq hj2).1, hu, l, vs, u, rfl, rfl, by rw [upd_ne ne]; exact h1, by rw [rv.length]; exact hz, (ds ++ [d], es.eraseIdx jj), Gb, G1, m1, S3, gg3 en (gg2 en2 (S.tr g g1)), q1, ls.sm g1.gg⟩
end
end Dl

set_option Elab.async false
set_option linter.all false
set_option autoImplicit false
set_option maxRecDepth 100000
set_option maxHeartbeats 1000000
namespace Dl
open PySem L2 PySem.Spec PyProof.Rows

/-! ### repr of a list, a tuple -/
def dRepr (d : D) : Option D := match d with
  | .list _ => if (d.showable && !d.hasDict && decide (d.depth ≤ 60) && decide (d.shown.length ≤ sizeLine)) = true then some (.str d.shown) else none
  | .tuple _ => if (d.showable && !d.hasDict && decide (d.depth ≤ 60) && decide (d.shown.length ≤ sizeLine)) = true then some (.str d.shown) else none
  | _ => none
def rRepr : List V → Hp → VK → Prop := fun vs H Q => ∃ a d, vs = [V.ref a] ∧ Rp H (.ref a) d ∧ d.showable = true ∧ d.hasDict = false ∧ d.depth ≤ 60 ∧ d.shown.length ≤ sizeLine ∧ Q (.str d.shown) H
theorem cr_repr {X : Cx} (hg : X.A.guards = some []) (hu : X.A.units + 64 < cLine) : CallR X (.builtin "repr") rRepr := by
  intro pins s σ H vs us Q I r h
  obtain ⟨a, d, rfl, rd, h1, h2, h3, h4, q⟩ := h
  rw [Vals.ref1 r]
  obtain ⟨as, rr⟩ := Dp.reads I d (.ref a) (.ref a) rd.dp rfl
  exact repr_of_reads' rr h1 (fun z => by rw [h2] at z; cases z) hg (by omega) (fun _ _ e => e) (fun h' u tk hk => ⟨.str _, H, I.kept hk, ⟨_, rfl⟩, q⟩) h4
theorem cd_repr : CallD rRepr (F1 dRepr) := by
  intro G H vs ds z Q gh r hF k
  cases r with
  | nil => cases hF
  | cons a b =>
    cases b with
    | cons _ _ => cases hF
    | nil =>
      have hF : dRepr _ = some z := hF
      cases a with
      | @lst p vs ds hp r =>
        simp only [dRepr, Option.ite_none_right_eq_some, Option.some.injEq, Bool.and_eq_true, Bool.not_eq_true', decide_eq_true_eq] at hF
        obtain ⟨⟨⟨⟨h1, h2⟩, h3⟩, h4⟩, rfl⟩ := hF
        exact ⟨p, _, rfl, .lst (gh _ _ hp) (r.mono gh), h1, h2, h3, h4, k _ G H (Grow.refl _ _ _) gh (.str _)⟩
      | @tup p vs ds hp r =>
        simp only [dRepr, Option.ite_none_right_eq_some, Option.some.injEq, Bool.and_eq_true, Bool.not_eq_true', decide_eq_true_eq] at hF
        obtain ⟨⟨⟨⟨h1, h2⟩, h3⟩, h4⟩, rfl⟩ := hF
        exact ⟨p, _, rfl, .tup (gh _ _ hp) (r.mono gh), h1, h2, h3, h4, k _ G H (Grow.refl _ _ _) gh (.str _)⟩
      | _ => cases hF

/-! ### xs.index(d) -/
def dIndex : D → D → Option D
  | .list ds, d => if (SeqAt.shaped (.list ds) && SeqAt.shaped d) = true then (ds.findIdx? fun z => PyData.eqv z d).map fun j => .int (j : Nat) else none
  | _, _ => none
def idxM (To T : M D) : M D := fun q => To fun l m => (∃ ds, l = .list ds) ∧ T (fun d m2 => lift (dIndex l d) q m2) m
def idxO (oo oe : Option D) : Option D := oo.bind fun l => match l with
  | .list ds => oe.bind fun d => dIndex (.list ds) d
  | _ => none
theorem findIdx_first {p : D → Bool} : ∀ {ds : List D} {j : Nat}, ds.findIdx? p = some j → (∃ z, ds[j]? = some z ∧ p z = true) ∧ ∀ (m : Nat) (z : D), m < j → ds[m]? = some z → p z = false := fun {ds j} h => by
  obtain ⟨hj, h1, h2⟩ := List.findIdx?_eq_some_iff_getElem.mp h
  refine ⟨⟨ds[j], List.getElem?_eq_getElem hj, h1⟩, fun m z hm hz => ?_⟩
  obtain ⟨hm', rfl⟩ := List.getElem?_eq_some_iff.mp hz
  have := h2 m hm
  simpa using this
section
variable {α : Type} {X : Cx} {R : Res} {rk : RK α} {κ : Kt} {q : α → Nat → Prop} {ρ : List Cell} {o e : Expr} {rest : List Stmt} {pos apos cpos : Pos}
theorem jm_index {To T : M D} {k : Nat} (B : Bx X k) (ho : JM X R ρ o To) (he : JM X R ρ e T) (hbase : attributeBase o "index" X.env (eval o X.env) = eval o X.env := by rfl)
    (hfew : ((backTo cpos (starEach (e :: []) X.env)).all (fun x => !x.1) && (backToKw cpos (keywordEach [] X.env)).all (fun x => x.1.isSome) && decide ((e :: ([] : List Expr)).length + ([] : List Keyword).length + (if ([] : List Keyword).isEmpty then 0 else 1) < 30)) = true := by rfl)
    (hline : (apos.endLine == cpos.line) = true := by rfl) (hst : starEach (e :: []) X.env = (false, eval e X.env) :: starEach [] X.env := by rfl) (hpl : (backTo cpos (starEach [] X.env)).any (·.1) = false := by rfl) :
    JM X R ρ (.Call (.Attribute o "index" apos) [e] [] cpos) (idxM To T) := by
  refine PE.imp (pe_bm PySem.F.plainAttrs_list PySem.F.slot_list_index PySem.F.type_list_index (mt_indexD B.u65) ho (pa_cons he pa_nil hst) hbase hfew hline hst hpl) fun σ H Q ⟨G, m, q, S, t, k⟩ => ⟨G, m, _, S, t, fun v d G1 H1 m1 S1 g1 r1 q1 => ?_⟩
  obtain ⟨⟨ds, rfl⟩, q1⟩ := q1
  cases r1 with
  | @lst p vs _ hp r =>
    refine ⟨.inl ⟨rfl, _, .inl (.inl (S1.gh _ _ hp))⟩, G1, m1, _, S1, q1, fun w d G2 H2 m2 S2 g2 r2 q2 => ?_⟩
    obtain ⟨z, hz, q2⟩ := q2
    have hz : (if (SeqAt.shaped (.list ds) && SeqAt.shaped d) = true then (ds.findIdx? fun z => PyData.eqv z d).map fun j => PyData.int (j : Nat) else none) = some z := hz
    by_cases ok : (SeqAt.shaped (.list ds) && SeqAt.shaped d) = true
    · rw [if_pos ok] at hz
      obtain ⟨j, hj, rfl⟩ := Option.map_eq_some_iff.mp hz
      simp only [Bool.and_eq_true] at ok
      obtain ⟨⟨z, h1, h2⟩, h3⟩ := findIdx_first hj
      have rl : Rp G2 (.ref p) (.list ds) := .lst (g2.gg _ _ hp) (r.mono g2.gg)
      exact ⟨p, w, d, ds, j, z, rfl, rfl, (rl.mono S2.gh).dp, (r2.mono S2.gh).dp, ok.1, ok.2, h1, h2, h3, k _ _ G2 H2 m2 S2 (g1.trans S1.vh g2) (.int _) q2⟩
    · rw [if_neg ok] at hz; cases hz
theorem je_index {oo oe : Option D} {k : Nat} (B : Bx X k) (ho : JE X R ρ o oo) (he : JE X R ρ e oe) (hbase : attributeBase o "index" X.env (eval o X.env) = eval o X.env := by rfl)
    (hfew : ((backTo cpos (starEach (e :: []) X.env)).all (fun x => !x.1) && (backToKw cpos (keywordEach [] X.env)).all (fun x => x.1.isSome) && decide ((e :: ([] : List Expr)).length + ([] : List Keyword).length + (if ([] : List Keyword).isEmpty then 0 else 1) < 30)) = true := by rfl)
    (hline : (apos.endLine == cpos.line) = true := by rfl) (hst : starEach (e :: []) X.env = (false, eval e X.env) :: starEach [] X.env := by rfl) (hpl : (backTo cpos (starEach [] X.env)).any (·.1) = false := by rfl) :
    JE X R ρ (.Call (.Attribute o "index" apos) [e] [] cpos) (idxO oo oe) := (jm_index B ho he hbase hfew hline hst hpl).imp fun q m h => by
  obtain ⟨l, h1, h2⟩ := lift1 h
  refine ⟨l, h1, ?_⟩
  match l, h2 with
  | .list ds, h2 => exact ⟨⟨ds, rfl⟩, lift1 h2⟩
/-! ### a new list is cleared, and dropped -/
theorem jk_clear {T : M (List D)} {a : Nat → Prop} (ho : JL X R ρ o T) (hr : JK X R rk ρ rest κ q a) (hbase : attributeBase o "clear" X.env (eval o X.env) = eval o X.env := by rfl) (hline : (apos.endLine == cpos.line) = true := by rfl)
    (hs : swapsWith (.Call (.Attribute o "clear" apos) [] [] cpos) none pos.line X.env = pure false := by rfl) : JK X R rk ρ (.Expr (.Call (.Attribute o "clear" apos) [] [] cpos) pos :: rest) κ q (T fun _ => a) :=
  PSs.imp (pss_cons (ps_expr (pe_bm0 PySem.F.plainAttrs_list PySem.F.slot_list_clear PySem.F.type_list_clear mt_clear ho hbase hline) hs) hr) fun Dn σ H ⟨Gb, G, m, S, g, t, ls⟩ => ⟨G, m, _, S, t, fun p vs ds G1 H1 m1 S1 g1 hp gp hp1 r1 q1 => by
    refine ⟨.inl ⟨rfl, _, .inl (.inl hp1)⟩, p, vs, rfl, rfl, hp1, ?_⟩
    have nv : ¬ R.vol p := fun v => S.vh p v hp
    have g2 : Grow R.vol G H G1 (upd H1 p (.lst [])) := ⟨g1.gg, fun b u n h => by rw [upd_ne (ne_of_none h hp)]; exact g1.hh b u n h, g1.new⟩
    have S2 : Sit R σ ρ G1 (upd H1 p (.lst [])) m1 := S.grow g2 (fun b u h => by rw [upd_ne (ne_of_none h gp)]; exact S1.gh b u h) (fun b v => by rw [upd_ne fun z : b = p => nv (z ▸ v)]; exact S1.vh b v) (R.dm (fun b v => upd_ne fun z : b = p => nv (z ▸ v)) S1.jd)
    exact ⟨Gb, G1, m1, S2, S.tr g g2, q1, ls.sm g1.gg⟩⟩
end
section
variable {α : Type} {X : Cx} {R : Res} {rk : RK α} {κ : KtE α} {ρ : List Cell} {o e : Expr} {rest : List Stmt} {pos apos cpos : Pos}
theorem jke_clear {oo : Option (List D)} {k : Option α} (ho : JLE X R ρ o oo) (hr : JKE X R rk ρ rest κ k) (hbase : attributeBase o "clear" X.env (eval o X.env) = eval o X.env := by rfl) (hline : (apos.endLine == cpos.line) = true := by rfl)
    (hs : swapsWith (.Call (.Attribute o "clear" apos) [] [] cpos) none pos.line X.env = pure false := by rfl) : JKE X R rk ρ (.Expr (.Call (.Attribute o "clear" apos) [] [] cpos) pos :: rest) κ (oo.bind fun _ => k) := fun a =>
  (jk_clear ho (hr a) hbase hline hs).imp fun _ h => bind_lift (k := fun _ => k) h
end
end Dl

set_option Elab.async false
set_option linter.all false
set_option autoImplicit false
set_option maxRecDepth 100000
set_option maxHeartbeats 1000000
namespace Dl
open PySem L2 PySem.Spec PyProof.Rows PySem.Calls
open PySem.W (AllAlike Sortable SortsAt EachIs dataLe dataKind sortVals copyHeap sortingHeap alike)

/-! ### sorted(t), t a tuple -/
section
variable {prog : Program} {w : World} {A : Around} {E : Value → Shared → Prop} {s : Shared} {t : Addr} {us : List Value}
theorem collect_tup {Q : List Value → Shared → Prop} (ht : s.heap.IsTuple t us.toArray) (hz : us.length ≤ sizeLine) (h : Q us { s with heap := (s.heap.push (seqObj "list" #[] 0)).update s.heap.objs.size (Obj.mapSeq (· ++ us.toArray)) }) : wpAny (model prog w) A (collect (.ref t)) Q E s := by
  obtain ⟨ob, hob, hcls, k, hdat⟩ := id ht
  unfold collect
  refine wpAny_bind (wpAny_runValue (codeAny_builtin entry_proto_collect' ?_))
  refine (?_ : wpAny _ _ (do again (.builtin "list.__iadd__" ⟨[← newList [], .ref t], []⟩)) _ _ s)
  refine wpAny_bind (wpAny_newList (wpAny_pure ⟨Code.quiet_builtin _ (by decide +kernel), codeAny_builtin entry_list_iadd' ?_⟩))
  refine (?_ : wpAny _ _ (Builtin.List.listExtendWith (.ref s.heap.objs.size) (.ref t) (.ref s.heap.objs.size)) _ _ { s with heap := s.heap.push (seqObj "list" #[] 0) })
  unfold Builtin.List.listExtendWith
  have hob2 : (s.heap.push (seqObj "list" #[] 0)).get? t = some ob := Heap.get?_push_of_some _ hob
  refine wpAny_bind (wpAny_typeOf (T := "tuple") ⟨ob, hob2, hcls⟩ ?_)
  have e1 : (Value.type "tuple" == Value.type "tuple") = true := by rfl
  rw [if_pos (by rw [e1]; simp)]
  refine wpAny_bind (listItems_at hob2 hdat ?_)
  refine wpAny_bind (listItems_at (xs := #[]) (n := 0) (Heap.get?_push_size _ rfl) rfl ?_)
  rw [if_neg (by simp)]
  refine wpAny_bind (listUpdate_at (xs := #[]) (n := 0) (Heap.get?_push_size _ rfl) rfl ?_ (Nat.zero_le _) ?_)
  · refine wpAny_pure ?_
    refine (?_ : wpAny (model prog w) A (do let o ← load s.heap.objs.size; match o.data with | .seq xs _ => pure xs.toList | _ => unsupported "internal:collect") Q E { s with heap := (s.heap.push (seqObj "list" #[] 0)).update s.heap.objs.size (Obj.mapSeq (· ++ us.toArray)) })
    refine wpAny_bind (wpAny_load (get?_update_seq (Heap.get?_push_size _ rfl) _) ?_)
    refine (?_ : wpAny _ _ (pure ((#[] : Array Value) ++ us.toArray).toList) Q E _)
    have e2 : ((#[] : Array Value) ++ us.toArray).toList = us := by simp
    rw [e2]
    exact wpAny_pure h
  · show (#[] ++ us.toArray).size ≤ sizeLine + 1
    simp only [Array.size_append, List.size_toArray, List.length_nil]; omega
theorem sort_tup {Q : Value → Shared → Prop} (ht : s.heap.IsTuple t us.toArray) (hz : us.length ≤ sizeLine) (body : ∀ E' : Value → Shared → Prop, wpAny (model prog w) A.in1.in1 (Builtin.«list.sort» ⟨[.ref (s.heap.objs.size + 1)], []⟩) (fun f z => f = .done (.ret .none) ∧ Q (.ref (s.heap.objs.size + 1)) z) E' { s with heap := copyHeap s.heap us }) :
    wpAny (model prog w) A (call (.builtin "sorted") [.ref t]) Q E s := by
  refine call_function_entry_kw kind_sorted plain_sorted entry_sorted (args_sorted1 _) ?_
  unfold Builtin.«sorted»
  refine wpAny_bind (m := checkCount "sorted" 1 1 _) (wpAny_pure ?_)
  refine wpAny_bind (collect_tup ht hz ?_)
  refine wpAny_bind (wpAny_newList ?_ hz)
  have sz : ((s.heap.push (seqObj "list" #[] 0)).update s.heap.objs.size (Obj.mapSeq (· ++ us.toArray))).objs.size = s.heap.objs.size + 1 := by
    rw [Heap.size_update, Heap.size_push]
  refine (?_ : wpAny _ _ _ _ _ { s with heap := copyHeap s.heap us })
  rw [sz]
  refine wpAny_bind (wpAny_holding (wpAny_call_entry_kw slot_list_sort ⟨_, PySem.W.copyHeap_at s.heap us, rfl⟩ entry_list_sort ?body (args_list_sort _)))
  case body =>
    refine wpAny_mono (body _) (fun f z hf => ?_) fun _ _ e => e
    obtain ⟨rfl, hq⟩ := hf
    exact ⟨_, rfl, wpAny_pure ⟨_, rfl, hq⟩⟩
variable {β : Type} {R : Value → β → Prop} {bs : List β} {enc : β → D}
theorem sorted_tup {Q : Value → Shared → Prop} (ht : s.heap.IsTuple t us.toArray) (e : EachIs R us bs) (er : EachIs (fun v b => ∃ as, Reads s.heap v (enc b) as) us bs) (hal : AllAlike (bs.map enc)) (hk : Sortable (bs.map enc)) (hz : bs.length ≤ sizeLine) (hu : ∀ b, b ∈ bs → A.units + 2 + (enc b).depth < cLine)
    (h : ∀ out, out.length = bs.length → EachIs R out (bs.mergeSort (dataLe false enc)) → Q (.ref (s.heap.objs.size + 1)) { s with heap := PyProof.Rows.sortedAll s.heap us (List.toArray out) }) : wpAny (model prog w) A (call (.builtin "sorted") [.ref t]) Q E s := by
  have er2 : EachIs (fun v b => ∃ as, Reads (sortingHeap (copyHeap s.heap us) (s.heap.objs.size + 1) us) v (enc b) as) us bs := er.mono fun _ _ ⟨as, r⟩ => ⟨as, PyProof.Rows.Reads.keeps (fun _ _ => PySem.W.sorting_copy_old) r⟩
  have hz2 : us.length ≤ sizeLine := by rw [e.length]; exact hz
  have S : SortsAt prog w A.in1.in1 { s with heap := sortingHeap (copyHeap s.heap us) (s.heap.objs.size + 1) us } _ us := SortsAt.data (s := { s with heap := sortingHeap (copyHeap s.heap us) (s.heap.objs.size + 1) us }) (PySem.W.each_map (R := fun v d => ∃ as, Reads (sortingHeap (copyHeap s.heap us) (s.heap.objs.size + 1) us) v d as) enc er2) hal hk (PySem.W.bound_map hu)
  refine sort_tup ht hz2 fun _ => PySem.W.list_sort_vals (s := { s with heap := copyHeap s.heap us }) (PySem.W.copyHeap_at s.heap us) S hz2 ⟨rfl, ?_⟩
  exact h _ (by rw [PySem.W.sortVals_length false rfl]; exact e.length) (PySem.W.sortVals_data false e er2 hal)
end
def rSortedDT (K : PySem.W.Frag) : List V → Hp → VK → Prop := fun vs H Q => ∃ (a : Addr) (xs : List V) (ds : List D), vs = [V.ref a] ∧ SqT K H a xs ∧ DpAll K H xs ds ∧ srtOk ds = true ∧ ∀ p, H p = none → Q (.ref p) (upd H p (.lst (((xs.zip ds).mergeSort (PySem.W.dataLe false Prod.snd)).map Prod.fst)))
theorem cr_sortedDT {X : Cx} (hu : X.A.units + 64 < cLine) : CallR X (.builtin "sorted") (rSortedDT X.K) := by
  intro pins s σ H vs us Q I r h
  obtain ⟨a, xs, ds, rfl, hs, hd, ok, q⟩ := h
  obtain ⟨its, rv, hl, hz⟩ := I.tuple hs
  rw [Vals.ref1 r]
  obtain ⟨as, rd⟩ := Dp.readsAll I ds xs its hd rv
  obtain ⟨e1, e2⟩ := each_zip rv rd
  have hlen : xs.length = ds.length := by
    have h1 := rv.length
    have h2 := SeqAt.ReadsAll.length ds its as rd
    omega
  have hmap : (xs.zip ds).map Prod.snd = ds := List.map_snd_zip (by omega)
  simp only [srtOk, Bool.and_eq_true, Bool.or_eq_true, List.all_eq_true, decide_eq_true_eq] at ok
  obtain ⟨⟨⟨o1, o2⟩, o3⟩, o4⟩ := ok
  refine sorted_tup (R := fun v (b : V × D) => RelV b.1 v) (enc := Prod.snd) (us := its) (show s.heap.IsTuple a its.toArray from hl) e1 e2 ?_ ?_ ?_ ?_ fun out hlo eo => ?_
  · rw [hmap]
    exact fun d hd e he => o1 d hd e he
  · rw [hmap]
    rcases o2 with o | o
    · refine .inl fun d hd => ?_
      have := o d hd
      split at this
      · exact ⟨_, _, rfl⟩
      · cases this
    · refine .inr fun d hd => ?_
      have := o d hd
      split at this
      · cases this
      · cases this
      · rename_i n1 n2
        exact ⟨n1, n2⟩
  · rw [List.length_zip]; omega
  · intro b hb
    have hb2 : b.2 ∈ ds := by
      rw [← hmap]
      exact List.mem_map_of_mem hb
    have := o4 b.2 hb2
    omega
  · obtain ⟨ep, he'⟩ := PyProof.Rows.sortedAll_at s.heap its out.toArray
    have hv := each_vals eo
    have hl2 : (((xs.zip ds).mergeSort (PySem.W.dataLe false Prod.snd)).map Prod.fst).length ≤ sizeLine := by
      rw [List.length_map, List.length_mergeSort, List.length_zip]; omega
    exact ⟨.ref _, upd H (s.heap.objs.size + 1) (.lst _), I.laid (t' := s.toks) (fun _ _ => PyProof.Rows.sortedAll_old) (Nat.le_succ _) ⟨hl2, out, ep, hv, he'⟩, rfl, q _ (I.hok.fresh (Nat.le_succ _))⟩
/-- sorted(..) of a list or a tuple -/
def dSort (d : D) : Option (List D) := (dItems d).bind fun ds => if srtOk ds = true then some (srtD ds) else none
theorem cr_sort {X : Cx} (hu : X.A.units + 64 < cLine) : CallR X (.builtin "sorted") (fun vs H Q => rSortedD X.K vs H Q ∨ rSortedDT X.K vs H Q) := (cr_sortedD hu).or (cr_sortedDT hu)
theorem cd_sort {K : PySem.W.Frag} : CallDL (fun vs H Q => rSortedD K vs H Q ∨ rSortedDT K vs H Q) (F1 dSort) := by
  intro G H vs ds z Q gh r hF k
  cases r with
  | nil => cases hF
  | cons a b =>
    cases b with
    | cons _ _ => cases hF
    | nil =>
      have key : ∀ {xs : List V} {ds : List D}, RpL G xs ds → (if srtOk ds = true then some (srtD ds) else none) = some z → srtOk ds = true ∧ ∀ l, H l = none → Q (.ref l) (upd H l (.lst (((xs.zip ds).mergeSort (PySem.W.dataLe false Prod.snd)).map Prod.fst))) := fun {xs ds} r hF => by
        by_cases ok : srtOk ds = true
        · rw [if_pos ok] at hF
          cases hF
          refine ⟨ok, fun l hl => ?_⟩
          obtain ⟨g, s⟩ := grow_own gh hl (.lst (((xs.zip ds).mergeSort (PySem.W.dataLe false Prod.snd)).map Prod.fst))
          refine k l _ G _ g s hl (gh.free hl) upd_same ?_
          have e : srtD ds = ((xs.zip ds).mergeSort (PySem.W.dataLe false Prod.snd)).map Prod.snd := by
            unfold srtD
            have e1 := List.map_mergeSort (f := Prod.snd) (r := PySem.W.dataLe false (Prod.snd : V × D → D)) (s := PySem.W.dataLe false id) (l := xs.zip ds) (fun a _ b _ => rfl)
            rw [List.map_snd_zip (by rw [r.length]; exact Nat.le_refl _)] at e1
            exact e1.symm
          rw [e]
          exact rp_unzip fun b hb => zip_rp r b ((List.mergeSort_perm _ _).mem_iff.mp hb)
        · rw [if_neg ok] at hF; cases hF
      cases a with
      | @lst p xs ds hp r =>
        obtain ⟨ok, f⟩ := key r hF
        exact .inl ⟨p, xs, ds, rfl, SqL.of (gh _ _ hp), (r.mono gh).dp, ok, f⟩
      | @tup p xs ds hp r =>
        obtain ⟨ok, f⟩ := key r hF
        exact .inr ⟨p, xs, ds, rfl, SqT.of (gh _ _ hp), (r.mono gh).dp, ok, f⟩
      | _ => cases hF
end Dl

set_option Elab.async false
set_option linter.all false
set_option autoImplicit false
set_option maxRecDepth 100000
set_option maxHeartbeats 1000000
namespace Dl
open PySem L2
def sliceM (T : M D) (Tl Th : M (Option Int)) : M D := fun q => T fun d => Tl fun l => Th fun u => lift (dCut d l u) q
section
variable {X : Cx} {R : Res} {ρ : List Cell} {e : Expr} {lo hi : Option Expr} {pos p2 : Pos}
theorem jm_sliceM {T : M D} {Tl Th : M (Option Int)} (he : JM X R ρ e T) (hl : JO X R ρ lo Tl) (hh : JO X R ρ hi Th) : JM X R ρ (.Subscript e (.Slice lo hi none p2) pos) (sliceM T Tl Th) := jm_slice he hl hh
theorem jo_someM {T : M D} (h : JM X R ρ e T) : JO X R ρ (some e) (bindM T asI) := jom_some h
end
end Dl

set_option Elab.async false
set_option linter.all false
set_option autoImplicit false
set_option maxRecDepth 100000
set_option maxHeartbeats 1000000
namespace Dl
open PySem L2
/-! ### what drawing code answers: at most k draws, and then Φ -/
def Sp {α : Type} (k : Nat) (T : M α) (Φ : α → Prop) : Prop := ∀ (q : α → Nat → Prop) (m : Nat), m + k ≤ 1000000000 → (∀ a m', m' ≤ m + k → Φ a → q a m') → T q m
section
variable {α β : Type} {k k2 n : Nat} {T : M α} {Φ Ψ : α → Prop}
theorem Sp.mono {T : M α} (h : Sp k T Φ) (hk : k ≤ k2) (hΦ : ∀ a, Φ a → Ψ a) : Sp k2 T Ψ := fun q m hm hq => h q m (by omega) fun a m' hm' ha => hq a m' (by omega) (hΦ a ha)
theorem Sp.use {T : M α} {q : α → Nat → Prop} {m : Nat} (h : Sp k T Φ) (hm : m + k ≤ 1000000000) (hq : ∀ a m', m' ≤ m + k → Φ a → q a m') : T q m := h q m hm hq
theorem sp_lift {o : Option α} {a : α} (h : o = some a) : Sp 0 (lift o) (fun b => b = a) := fun q m _ hq => ⟨a, h, hq a m (Nat.le_refl _) rfl⟩
theorem sp_take {n : Nat} (h0 : 0 < n) (h1 : n < 2 ^ 256) : Sp 1 (m__law_take (.int n)) (fun d => ∃ v : Nat, d = .int v ∧ v < n) := fun q m hm hq => by
  unfold m__law_take
  exact ⟨n, rfl, h0, h1, by omega, fun v hv => hq _ _ (Nat.le_refl _) ⟨v, rfl, hv⟩⟩
/-- a draw whose amount is a number -/
theorem sp_draw {T : M D} {n : Nat} (h : Sp k T fun d => d = .int n) (h0 : 0 < n) (h1 : n < 2 ^ 256) : Sp (k + 1) (drawM (consM T nilM) (G1 m__law_take)) (fun d => ∃ v : Nat, d = .int v ∧ v < n) := fun q m hm hq =>
  h _ m (by omega) fun a m' hm' ha => by
    subst ha
    exact sp_take h0 h1 q m' (by omega) fun d m2 hm2 hd => hq d m2 (by omega) hd
theorem sp_op2 {Ta Tb : M D} {f : D → D → Option D} {Φa Φb : D → Prop} {Φ : D → Prop} (ha : Sp k Ta Φa) (hb : Sp k2 Tb Φb) (hf : ∀ x y, Φa x → Φb y → ∃ z, f x y = some z ∧ Φ z) : Sp (k + k2) (op2 f Ta Tb) Φ := fun q m hm hq =>
  ha _ m (by omega) fun x m1 hm1 hx => hb _ m1 (by omega) fun y m2 hm2 hy => by
    obtain ⟨z, hz, hΦ⟩ := hf x y hx hy
    exact ⟨z, hz, hq z m2 (by omega) hΦ⟩
theorem sp_nil : Sp 0 nilM (fun ds => ds = []) := fun q m _ hq => hq [] m (Nat.le_refl _) rfl
theorem sp_cons {T : M D} {Ts : M (List D)} {Φ : D → Prop} {Φs : List D → Prop} (h : Sp k T Φ) (hs : Sp k2 Ts Φs) : Sp (k + k2) (consM T Ts) (fun ds => ∃ d r, ds = d :: r ∧ Φ d ∧ Φs r) := fun q m hm hq =>
  h _ m (by omega) fun d m1 hm1 hd => hs _ m1 (by omega) fun r m2 hm2 hr => hq _ m2 (by omega) ⟨d, r, rfl, hd, hr⟩
theorem sp_lst {Ts : M (List D)} {Φs : List D → Prop} (h : Sp k Ts Φs) : Sp k (lstM Ts) (fun d => ∃ ds, d = .list ds ∧ Φs ds) := fun q m hm hq => h _ m hm fun ds m' hm' hd => hq _ m' hm' ⟨ds, rfl, hd⟩
theorem sp_tup {Ts : M (List D)} {Φs : List D → Prop} (h : Sp k Ts Φs) : Sp k (tupM Ts) (fun d => ∃ ds, d = .tuple ds ∧ Φs ds) := fun q m hm hq => h _ m hm fun ds m' hm' hd => hq _ m' hm' ⟨ds, rfl, hd⟩
theorem sp_app {Ts : M (List D)} {F : List D → Option β} {Φs : List D → Prop} {Φ : β → Prop} (h : Sp k Ts Φs) (hF : ∀ ds, Φs ds → ∃ b, F ds = some b ∧ Φ b) : Sp k (appM Ts F) Φ := fun q m hm hq => h _ m hm fun ds m' hm' hd => by
  obtain ⟨b, hb, hΦ⟩ := hF ds hd
  exact ⟨b, hb, hq b m' hm' hΦ⟩
theorem sp_bind {T : M D} {f : D → Option β} {Φd : D → Prop} {Φ : β → Prop} (h : Sp k T Φd) (hf : ∀ d, Φd d → ∃ b, f d = some b ∧ Φ b) : Sp k (bindM T f) Φ := fun q m hm hq => h _ m hm fun d m' hm' hd => by
  obtain ⟨b, hb, hΦ⟩ := hf d hd
  exact ⟨b, hb, hq b m' hm' hΦ⟩
/-- each element by at most k draws -/
def All2 (Φ : D → D → Prop) : List D → List D → Prop
  | [], [] => True
  | d :: ds, e :: es => Φ d e ∧ All2 Φ ds es
  | _, _ => False
theorem All2.len {Φ : D → D → Prop} : ∀ {ds es : List D}, All2 Φ ds es → es.length = ds.length
  | [], [], _ => rfl
  | d :: ds, e :: es, h => by simp [All2.len h.2]
  | [], _ :: _, h => h.elim
  | _ :: _, [], h => h.elim
theorem sp_cM {f : D → M D} {Φ : D → D → Prop} : ∀ {ds : List D}, (∀ d ∈ ds, Sp k (f d) (Φ d)) → Sp (ds.length * k) (cM (fun d => turnM (lift (some true)) (f d)) ds) (fun es => All2 Φ ds es)
  | [], _ => fun q m _ hq => hq [] m (by omega) trivial
  | d :: ds, h => fun q m hm hq => by
    have e : (ds.length + 1) * k = ds.length * k + k := Nat.succ_mul _ _
    rw [List.length_cons, e] at hm
    refine ⟨true, rfl, ?_⟩
    refine h d List.mem_cons_self _ m (by omega) fun x m1 hm1 hx => ?_
    exact sp_cM (fun d' hd' => h d' (List.mem_cons_of_mem _ hd')) _ m1 (by omega) fun es m2 hm2 hes => hq _ m2 (by rw [List.length_cons, e]; omega) ⟨hx, hes⟩
theorem sp_lc {Ti : M (List D)} {ds : List D} {f : D → M D} {Φ : D → D → Prop} (hi : Sp k2 Ti (fun es => es = ds)) (hl : ds.length < sizeLine) (h : ∀ d ∈ ds, Sp k (f d) (Φ d)) : Sp (k2 + ds.length * k) (lcM Ti fun d => turnM (lift (some true)) (f d)) (fun es => All2 Φ ds es) := fun q m hm hq =>
  hi _ m (by omega) fun a m1 hm1 ha => by
    subst ha
    exact ⟨hl, sp_cM h q m1 (by omega) fun es m2 hm2 he => hq es m2 (by omega) he⟩
end
/-! ### a drawn order -/
@[irreducible] def m__law_one_of (some1 : D) : M D := fun q =>
  ((op2 dIx (lift (some some1)) (drawM (consM (lift (C1 dLen (some some1))) nilM) (G1 m__law_take))) q)
@[irreducible] def m__law_draw_order (n1 : D) : M D := fun q =>
  ((consLM (lift (C1 dRg1 (some n1))) (consLM (lift (some [])) nilCM)) (cel2M (fun c3 c5 => (onLM (fun left2 => (onLM (fun found4 => ((lift (C1 (fun x => dRange [x]) (some n1))) fun ds => forK (S := List D × List D) (fun s6 turn10 kk7 => (popK (lendM (drawM (consM (lift (C1 dLen (some (PyData.list s6.1)))) nilM) (G1 m__law_take))) s6.2 s6.1 fun found11 left12 => (kk7 (left12, found11)))) ds (left2, found4) fun s9 => ((lift (C1 dTup (some (PyData.list s9.2)))) q))) c5)) c3))))
theorem rangeD0 (n : Nat) : rangeD 0 n = (List.range n).map fun (i : Nat) => PyData.int i := by
  unfold rangeD
  rw [Int.sub_zero, Int.toNat_natCast]
  exact List.map_congr_left fun i _ => by rw [Int.zero_add]
def ofN (xs : List Nat) : List D := xs.map fun (i : Nat) => PyData.int i
theorem ofN_len (xs : List Nat) : (ofN xs).length = xs.length := by simp [ofN]
theorem eraseIdx_ofN : ∀ (xs : List Nat) (v : Nat), (ofN xs).eraseIdx v = ofN (xs.eraseIdx v)
  | [], _ => by simp [ofN]
  | x :: xs, 0 => rfl
  | x :: xs, v + 1 => by
    show PyData.int x :: (ofN xs).eraseIdx v = _
    rw [eraseIdx_ofN xs v]
    rfl
theorem pick_perm : ∀ (xs : List Nat) (v : Nat) (h : v < xs.length), List.Perm ([xs[v]] ++ xs.eraseIdx v) xs
  | x :: xs, 0, _ => List.Perm.refl _
  | x :: xs, v + 1, h => (List.Perm.swap x (xs[v]'(by simpa using h)) _).trans ((pick_perm xs v (by simpa using h)).cons x)
theorem order_loop : ∀ (ts : List D) (left found : List Nat) (q : D → Nat → Prop) (m : Nat), left.length = ts.length → left.length + found.length < 1000000 → m + ts.length ≤ 1000000000 →
    (∀ (xs : List Nat) (m' : Nat), m' ≤ m + ts.length → xs.Perm (found ++ left) → q (.tuple (ofN xs)) m') →
    forK (S := List D × List D) (fun s6 turn10 kk7 => (popK (lendM (drawM (consM (lift (C1 dLen (some (PyData.list s6.1)))) nilM) (G1 m__law_take))) s6.2 s6.1 fun found11 left12 => (kk7 (left12, found11)))) ts (ofN left, ofN found) (fun s9 => ((lift (C1 dTup (some (PyData.list s9.2)))) q)) m
  | [], left, found, q, m, h1, _, _, hq => by
    have : left = [] := List.length_eq_zero_iff.mp h1
    subst this
    refine ⟨_, rfl, hq found m (by simp) (by simp)⟩
  | t :: ts, left, found, q, m, h1, h2, hm, hq => by
    have hl : 0 < left.length := by rw [h1]; simp
    rw [List.length_cons] at h1 hm
    refine sp_draw (k := 0) (n := left.length) (T := lift (C1 dLen (some (PyData.list (ofN left))))) (fun q' m' _ hq' => ⟨.int (left.length : Nat), by show some (PyData.int ((ofN left).length : Nat)) = _; rw [ofN_len], hq' _ m' (Nat.le_refl _) rfl⟩) hl (by omega) _ m (by omega) fun d m1 hm1 hd => ?_
    obtain ⟨v, rfl, hv⟩ := hd
    refine ⟨rfl, (v : Int), v, .int (left[v] : Nat), rfl, by omega, by omega, ?_, ?_, ?_, ?_⟩
    · exact ixN_nat' (by rw [ofN_len]; exact hv)
    · simp [ofN, hv]
    · rw [ofN_len, sizeLine_eq]; omega
    · have e1 : ofN found ++ [PyData.int (left[v] : Nat)] = ofN (found ++ [left[v]]) := by simp [ofN]
      have e2 : (ofN left).eraseIdx v = ofN (left.eraseIdx v) := eraseIdx_ofN left v
      show forK (S := List D × List D) _ ts ((ofN left).eraseIdx v, ofN found ++ [PyData.int (left[v] : Nat)]) _ m1
      rw [e1, e2]
      have hle : (left.eraseIdx v).length = left.length - 1 := List.length_eraseIdx_of_lt hv
      refine order_loop ts (left.eraseIdx v) (found ++ [left[v]]) q m1 (by omega) (by simp; omega) (by omega) fun xs m' hm' hp => hq xs m' (by rw [List.length_cons]; omega) (hp.trans ?_)
      rw [List.append_assoc]
      refine List.Perm.append_left found ?_
      exact pick_perm left v hv
theorem sp_order {n : Nat} (h0 : n < 100000) : Sp n (m__law_draw_order (.int n)) (fun d => ∃ xs : List Nat, d = .tuple (ofN xs) ∧ xs.Perm (List.range n)) := fun q m hm hq => by
  unfold m__law_draw_order
  have e1 : C1 dRg1 (some (PyData.int (n : Nat))) = some (ofN (List.range n)) := by
    have h : rgOk 0 n = true := by
      simp only [rgOk, decide_eq_true_eq]
      omega
    rw [c1_some]
    simp only [dRg1, h, if_true]
    rw [rangeD0]
    rfl
  have e2 : C1 (fun x => dRange [x]) (some (PyData.int (n : Nat))) = some (rangeD 0 n) := by
    have h : small62 n = true := by
      simp only [small62, decide_eq_true_eq]
      omega
    rw [c1_some]
    simp only [dRange, h, if_true]
  refine ⟨_, e1, _, rfl, ?_⟩
  refine ⟨_, e2, ?_⟩
  have hr : (rangeD 0 (n : Int)).length = n := by rw [rangeD_len]; omega
  refine order_loop (rangeD 0 n) (List.range n) [] q m (by rw [hr]; simp) (by simp; omega) (by rw [hr]; exact hm) fun xs m' hm' hp => hq _ m' (by rw [hr] at hm'; exact hm') ⟨xs, rfl, by simpa using hp⟩
end Dl

set_option Elab.async false
set_option linter.all false
set_option autoImplicit false
set_option maxRecDepth 100000
set_option maxHeartbeats 1000000
namespace Dl
open PySem L2
def b__law_same (self : D → D → Option (D)) (found1 due2 : D) : Option (D) :=
  (ifO (orO ((b2 (dIsN false) (some due2) (some PyData.none)).bind asB) ((b2 (dIsN false) (some found1) (some PyData.none)).bind asB)) (andV (b2 (dIsN false) (some due2) (some PyData.none)) (b2 (dIsN false) (some found1) (some PyData.none))) (ifO (orO (((some due2).map fun d => PyData.bool (isTy "bool" d)).bind asT) (((some found1).map fun d => PyData.bool (isTy "bool" d)).bind asT)) (andV ((some due2).map fun d => PyData.bool (isTy "bool" d)) (andV ((some found1).map fun d => PyData.bool (isTy "bool" d)) (b2 dEq (some found1) (some due2)))) (ifO (((some due2).map fun d => PyData.bool (isTy "int" d || isTy "str" d)).bind asT) (ifO ((b2 dNe ((some found1).map fun d => PyData.bool (isTy "int" d)) ((some due2).map fun d => PyData.bool (isTy "int" d))).bind asB) (some (PyData.bool false)) (andV ((some found1).map fun d => PyData.bool (isTy "int" d || isTy "str" d)) (b2 dEq (some found1) (some due2)))) (ifO (orO ((b2 dNe ((some due2).map fun d => PyData.bool (isTy "tuple" d)) ((some found1).map fun d => PyData.bool (isTy "tuple" d))).bind asB) ((b2 dNe ((some due2).map fun d => PyData.bool (isTy "list" d)) ((some found1).map fun d => PyData.bool (isTy "list" d))).bind asB)) (some (PyData.bool false)) (ifO ((b2 dNe (C1 dLen (some found1)) (C1 dLen (some due2))).bind asB) (some (PyData.bool false)) (b2 (dIn true) (some (PyData.bool false)) ((lcO (C2 dZip (some found1) (some due2)) fun d => un2 d fun one3 other4 => turnO (some true) (C2 self (some one3) (some other4))).map PyData.list)))))))
def m__law_same : Nat → D → D → Option (D)
  | 0 => fun _ _ => none
  | n + 1 => b__law_same (m__law_same n)
@[irreducible] def r__law_same : D → D → Option (D) := m__law_same 40
/-! ### comprehensions over known lists -/
theorem cO_map {α : Type} {f : D → Option D} {g h : α → D} : ∀ (xs : List α), (∀ x ∈ xs, f (g x) = some (h x)) → cO (fun d => turnO (some true) (f d)) (xs.map g) = some (xs.map h)
  | [], _ => rfl
  | x :: xs, hf => by
    show (turnO (some true) (f (g x))).bind _ = _
    rw [hf x List.mem_cons_self]
    show (cO (fun d => turnO (some true) (f d)) (xs.map g)).bind _ = _
    rw [cO_map xs fun y hy => hf y (List.mem_cons_of_mem _ hy)]
    rfl
theorem lcO_map {α : Type} {f : D → Option D} {g h : α → D} {oi : Option (List D)} (xs : List α) (hi : oi = some (xs.map g)) (hl : xs.length < sizeLine) (hf : ∀ x ∈ xs, f (g x) = some (h x)) : lcO oi (fun d => turnO (some true) (f d)) = some (xs.map h) := by
  rw [hi]
  show (if (xs.map g).length < sizeLine then cO _ (xs.map g) else none) = _
  rw [if_pos (by rw [List.length_map]; exact hl)]
  exact cO_map xs hf
theorem cO_filter {α : Type} {t : D → Option Bool} {f : D → Option D} {p : α → Bool} {g h : α → D} : ∀ (xs : List α), (∀ x ∈ xs, t (g x) = some (p x)) → (∀ x ∈ xs, p x = true → f (g x) = some (h x)) → cO (fun d => turnO (t d) (f d)) (xs.map g) = some ((xs.filter p).map h)
  | [], _, _ => rfl
  | x :: xs, ht, hf => by
    show (turnO (t (g x)) (f (g x))).bind _ = _
    rw [ht x List.mem_cons_self]
    have ih := cO_filter (t := t) (f := f) (p := p) (g := g) (h := h) xs (fun y hy => ht y (List.mem_cons_of_mem _ hy)) fun y hy => hf y (List.mem_cons_of_mem _ hy)
    by_cases hp : p x = true
    · rw [hp, hf x List.mem_cons_self hp, List.filter_cons_of_pos hp]
      show (cO (fun d => turnO (t d) (f d)) (xs.map g)).bind _ = _
      rw [ih]; rfl
    · rw [Bool.not_eq_true] at hp
      rw [hp, List.filter_cons_of_neg (by rw [hp]; exact Bool.false_ne_true)]
      show (cO (fun d => turnO (t d) (f d)) (xs.map g)).bind _ = _
      rw [ih]; rfl
theorem lcO_filter {α : Type} {t : D → Option Bool} {f : D → Option D} {p : α → Bool} {g h : α → D} {oi : Option (List D)} (xs : List α) (hi : oi = some (xs.map g)) (hl : xs.length < sizeLine) (ht : ∀ x ∈ xs, t (g x) = some (p x)) (hf : ∀ x ∈ xs, p x = true → f (g x) = some (h x)) :
    lcO oi (fun d => turnO (t d) (f d)) = some ((xs.filter p).map h) := by
  rw [hi]
  show (if (xs.map g).length < sizeLine then cO _ (xs.map g) else none) = _
  rw [if_pos (by rw [List.length_map]; exact hl)]
  exact cO_filter xs ht hf
theorem eqOk_int (i j : Int) : eqOk (.int i) (.int j) = true := by simp [eqOk, PyData.plain, PyData.depth]
theorem eqOk_bool (i j : Bool) : eqOk (.bool i) (.bool j) = true := by simp [eqOk, PyData.plain, PyData.depth]
theorem dEq_int (i j : Int) : dEq (.int i) (.int j) = some (.bool (decide (i = j))) := by
  unfold dEq
  rw [if_pos (eqOk_int i j)]
  have e : (i == j) = decide (i = j) := by by_cases h : i = j <;> simp [h]
  simp [PyData.eqv, e]
theorem dNe_int (i j : Int) : dNe (.int i) (.int j) = some (.bool (!decide (i = j))) := by
  unfold dNe
  rw [if_pos (eqOk_int i j)]
  have e : (i == j) = decide (i = j) := by by_cases h : i = j <;> simp [h]
  simp [PyData.eqv, e]
theorem dNe_bool (i j : Bool) : dNe (.bool i) (.bool j) = some (.bool (!decide (i = j))) := by
  unfold dNe
  rw [if_pos (eqOk_bool i j)]
  cases i <;> cases j <;> simp [PyData.eqv]
/-! ### _law_same of a datum and itself -/
theorem zip_self {α : Type} {f : D → D → Option D} {h : α → D} {g : α → D} : ∀ (xs : List α), (∀ x ∈ xs, f (g x) (g x) = some (h x)) → cO (fun d => un2 d fun a b => turnO (some true) (f a b)) (zipD (xs.map g) (xs.map g)) = some (xs.map h)
  | [], _ => rfl
  | x :: xs, hf => by
    show (turnO (some true) (f (g x) (g x))).bind _ = _
    rw [hf x List.mem_cons_self]
    show (cO _ (zipD (xs.map g) (xs.map g))).bind _ = _
    rw [zip_self xs fun y hy => hf y (List.mem_cons_of_mem _ hy)]
    rfl
theorem notin_true (n : Nat) : dIn true (.bool false) (.list (List.replicate n (.bool true))) = some (.bool true) := by
  have h1 : PyData.plainAll (List.replicate n (PyData.bool true)) = true := by
    induction n with
    | zero => rfl
    | succ n ih => rw [List.replicate_succ]; simp [PyData.plainAll, PyData.plain, ih]
  have h2 : (List.replicate n (PyData.bool true)).any (fun y => PyData.eqv y (.bool false)) = false := by
    rw [List.any_eq_false]
    intro y hy
    rw [(List.mem_replicate.mp hy).2]
    simp [PyData.eqv]
  have h3 : inOk (.bool false) (List.replicate n (.bool true)) = true := by
    simp [inOk, h1, PyData.plain, PyData.depth]
  show (if inOk (.bool false) (List.replicate n (.bool true)) = true then some (PyData.bool (if true = true then _ else _)) else none) = _
  rw [if_pos h3, if_pos rfl, h2]
  rfl
/-- ints, and lists and tuples of such -/
def flat : Nat → D → Bool
  | _, .int _ => true
  | n + 1, .list ds => decide (ds.length < sizeLine) && ds.all (flat n)
  | n + 1, .tuple ds => decide (ds.length < sizeLine) && ds.all (flat n)
  | _, _ => false
theorem same_int (n : Nat) (i j : Int) : m__law_same (n + 1) (.int i) (.int j) = some (.bool (decide (i = j))) := by
  show b__law_same _ _ _ = _
  unfold b__law_same
  have e1 : b2 dNe ((some (PyData.int i)).map fun d => PyData.bool (isTy "int" d)) ((some (PyData.int j)).map fun d => PyData.bool (isTy "int" d)) = some (.bool false) := dNe_bool true true
  have e2 : b2 dEq (some (.int i)) (some (.int j)) = some (.bool (decide (i = j))) := dEq_int i j
  rw [e1, e2]
  rfl
theorem same_seq {n : Nat} {ds : List D} {d : D} (hd : d = .list ds ∨ d = .tuple ds) (hl : ds.length < sizeLine) (h : ∀ x ∈ ds, m__law_same n x x = some (.bool true)) : m__law_same (n + 1) d d = some (.bool true) := by
  have hz : lcO (some (zipD ds ds)) (fun d => un2 d fun a b => turnO (some true) (C2 (m__law_same n) (some a) (some b))) = some (List.replicate ds.length (.bool true)) := by
    show (if (zipD ds ds).length < sizeLine then cO _ (zipD ds ds) else none) = _
    rw [if_pos (by rw [zipD_len]; omega)]
    have := zip_self (f := fun a b => C2 (m__law_same n) (some a) (some b)) (g := id) (h := fun _ => PyData.bool true) ds (fun x hx => h x hx)
    rw [List.map_id] at this
    rw [this, List.map_const']
  have hb : ∀ b : Bool, b2 dNe (some (.bool b)) (some (.bool b)) = some (.bool false) := fun b => by
    rw [b2_some, dNe_bool]
    simp
  have hi : ∀ i : Int, b2 dNe (some (.int i)) (some (.int i)) = some (.bool false) := fun i => by
    rw [b2_some, dNe_int]
    simp
  show b__law_same _ _ _ = _
  unfold b__law_same
  rcases hd with rfl | rfl
  · have e1 : C1 dLen (some (.list ds)) = some (.int ds.length) := rfl
    have e2 : C2 dZip (some (.list ds)) (some (.list ds)) = some (zipD ds ds) := rfl
    rw [e1, e2, hi, hz]
    have e3 : b2 (dIn true) (some (PyData.bool false)) ((some (List.replicate ds.length (PyData.bool true))).map PyData.list) = some (.bool true) := notin_true _
    rw [e3]
    have t1 : b2 dNe ((some (PyData.list ds)).map fun d => PyData.bool (isTy "tuple" d)) ((some (PyData.list ds)).map fun d => PyData.bool (isTy "tuple" d)) = some (.bool false) := hb _
    have t2 : b2 dNe ((some (PyData.list ds)).map fun d => PyData.bool (isTy "list" d)) ((some (PyData.list ds)).map fun d => PyData.bool (isTy "list" d)) = some (.bool false) := hb _
    rw [t1, t2]
    rfl
  · have e1 : C1 dLen (some (.tuple ds)) = some (.int ds.length) := rfl
    have e2 : C2 dZip (some (.tuple ds)) (some (.tuple ds)) = some (zipD ds ds) := rfl
    rw [e1, e2, hi, hz]
    have e3 : b2 (dIn true) (some (PyData.bool false)) ((some (List.replicate ds.length (PyData.bool true))).map PyData.list) = some (.bool true) := notin_true _
    rw [e3]
    have t1 : b2 dNe ((some (PyData.tuple ds)).map fun d => PyData.bool (isTy "tuple" d)) ((some (PyData.tuple ds)).map fun d => PyData.bool (isTy "tuple" d)) = some (.bool false) := hb _
    have t2 : b2 dNe ((some (PyData.tuple ds)).map fun d => PyData.bool (isTy "list" d)) ((some (PyData.tuple ds)).map fun d => PyData.bool (isTy "list" d)) = some (.bool false) := hb _
    rw [t1, t2]
    rfl
theorem same_flat : ∀ (n : Nat) (d : D), flat n d = true → m__law_same (n + 1) d d = some (.bool true)
  | n, .int i, _ => by rw [same_int]; simp
  | n + 1, .list ds, h => by
    simp only [flat, Bool.and_eq_true, decide_eq_true_eq, List.all_eq_true] at h
    exact same_seq (.inl rfl) h.1 fun x hx => same_flat n x (h.2 x hx)
  | n + 1, .tuple ds, h => by
    simp only [flat, Bool.and_eq_true, decide_eq_true_eq, List.all_eq_true] at h
    exact same_seq (.inr rfl) h.1 fun x hx => same_flat n x (h.2 x hx)
  | 0, .none, h => by cases h
  | 0, .bool _, h => by cases h
  | 0, .str _, h => by cases h
  | 0, .list _, h => by cases h
  | 0, .tuple _, h => by cases h
  | 0, .dict _, h => by cases h
  | n + 1, .none, h => by cases h
  | n + 1, .bool _, h => by cases h
  | n + 1, .str _, h => by cases h
  | n + 1, .dict _, h => by cases h
theorem same_ok {d : D} (h : flat 39 d = true) : r__law_same d d = some (.bool true) := by
  unfold r__law_same
  exact same_flat 39 d h
end Dl

set_option Elab.async false
set_option linter.all false
set_option autoImplicit false
set_option maxRecDepth 100000
namespace Dl
open PySem L2
@[irreducible] def m_weight_of (weights1 lot2 : D) : Option (D) :=
  (C1 dSum ((lcO ((some lot2).bind dItems) fun place3 => turnO (some true) (b2 dIx (some weights1) (some place3))).map PyData.list))
@[irreducible] def m_weighted_size (weights1 order2 target3 : D) : Option (D) :=
  (C1 (dBest max) ((lcO (C2 (fun x y => dRange [x, y]) (some (PyData.int 1)) (C1 dLen (some order2))) fun size4 => turnO ((b2 dLe (C2 m_weight_of (some weights1) (slO (some order2) (some none) ((some size4).bind asI))) (some target3)).bind asB) (some size4)).map PyData.list))
@[irreducible] def m_every_cut_weight (weights1 order2 : D) : Option (List D) :=
  (((C2 dRg2 (some (PyData.int 1)) (C1 dLen (some order2))).map PyData.list).bind fun sizes3 => (lcO ((some sizes3).bind dItems) fun size4 => turnO (some true) ((consO (C2 m_weight_of (some weights1) (slO (some order2) (some none) ((some size4).bind asI))) (consO (C2 m_weight_of (some weights1) (slO (some order2) ((some size4).bind asI) (some none))) (some []))).map PyData.tuple)))
@[irreducible] def m_even_size (weights1 order2 : D) : Option (D) :=
  (((lcO (C2 m_every_cut_weight (some weights1) (some order2)) fun pair4 => turnO (some true) (C1 (dBest max) (some pair4))).map PyData.list).bind fun greater3 => (b2 dAdd (idxO (some greater3) (C1 (dBest min) (some greater3))) (some (PyData.int 1))))
def m_law (q : D → Nat → Prop) : Nat → Prop :=
  ((lift (C1 (fun x => dRange [x]) (some (PyData.int 3)))) fun ds => forK (S := Unit) (fun s1 turn5 kk2 => ((consDM (op2 dAdd (lift (some (PyData.int 2))) (drawM (consM (lift (some (PyData.int 11))) nilM) (G1 m__law_take))) (consDM (drawM (consM (lift ((consO (some (PyData.int 9)) (consO (some (PyData.int 9)) (consO (b2 dPow (some (PyData.int 10)) (some (PyData.int 20))) (consO (b2 dPow (some (PyData.int 10)) (some (PyData.int 40))) (some []))))).map PyData.list)) nilM) (G1 m__law_one_of)) nilCM)) (cel2M (fun c7 c9 => (onDM (fun n6 => (onDM (fun most8 => ((consDM (drawM (consM (lift (some n6)) nilM) (G1 m__law_draw_order)) (consDM (appM (consM (lstM (lcM (lift (C1 (fun x => dRange [x]) (some n6))) fun place10 => turnM (lift (some true)) (op2 dAdd (lift (some (PyData.int 1))) (drawM (consM (lift (some most8)) nilM) (G1 m__law_take))))) nilM) (F1 dTup)) nilCM)) (cel2M (fun c12 c14 => (onDM (fun order11 => (onDM (fun weights13 => ((consDM (appM (consM (lstM (appM (consM (sliceM (lift (some order11)) (lift (some none)) (bindM (drawM (consM (lift (b2 dAdd (some n6) (some (PyData.int 1)))) nilM) (G1 m__law_take)) asI)) nilM) (F1 dSort))) nilM) (F1 dTup)) (consDM (lift (C1 dRepr ((consO (some weights13) (consO (some order11) (some []))).map PyData.tuple))) nilCM)) (cel2M (fun c16 c18 => (onDM (fun lot15 => (onDM (fun text17 => (ifK (lift (((C2 r__law_same (C2 m_weight_of (some weights13) (some lot15)) (C1 dSum ((lcO ((some lot15).bind dItems) fun place19 => turnO (some true) (b2 dIx (some weights13) (some place19))).map PyData.list))).bind asT).map (!·))) ((lift (some (PyData.bool false))) q) ((lstM (lift (lcO (C2 (fun x y => dRange [x, y]) (some (PyData.int 1)) (some n6)) fun size21 => turnO (some true) (C1 dSum ((lcO ((slO (some order11) (some none) ((some size21).bind asI)).bind dItems) fun place22 => turnO (some true) (b2 dIx (some weights13) (some place22))).map PyData.list))))) fun firsts20 => ((lift (C1 dSum (some weights13))) fun whole23 => ((lstM (lift (lcO ((some firsts20).bind dItems) fun first25 => turnO (some true) ((consO (some first25) (consO (b2 dSub (some whole23) (some first25)) (some []))).map PyData.tuple)))) fun pairs24 => ((lift (C2 m_every_cut_weight (some weights13) (some order11))) fun _ => (ifK (lift (((C2 r__law_same ((C2 m_every_cut_weight (some weights13) (some order11)).map PyData.list) (some pairs24)).bind asT).map (!·))) ((lift (some (PyData.bool false))) q) ((lstM (lift (lcO ((some pairs24).bind dItems) fun pair27 => turnO (some true) (C1 (dBest max) (some pair27))))) fun greater26 => (ifK (lift (((C2 r__law_same (C2 m_even_size (some weights13) (some order11)) (b2 dAdd (idxO (some greater26) (C1 (dBest min) (some greater26))) (some (PyData.int 1)))).bind asT).map (!·))) ((lift (some (PyData.bool false))) q) ((consDM (lift (b2 dIx (some weights13) (b2 dIx (some order11) (some (PyData.int 0))))) (consDM (lift (b2 dSub (b2 dSub (some whole23) (b2 dIx (some weights13) (b2 dIx (some order11) (b2 dSub (some n6) (some (PyData.int 1)))))) (some (PyData.int 1)))) nilCM)) (cel2M (fun c29 c31 => (onDM (fun low28 => (onDM (fun high30 => ((lstM (consM (lift (some low28)) (consM (lift (some high30)) (consM (op2 dAdd (lift (some low28)) (drawM (consM (lift (C2 dMax2 (some (PyData.int 1)) (b2 dAdd (b2 dSub (some high30) (some low28)) (some (PyData.int 1))))) nilM) (G1 m__law_take))) (consM (op2 dIx (lift (some firsts20)) (drawM (consM (lift (b2 dSub (some n6) (some (PyData.int 1)))) nilM) (G1 m__law_take))) nilM))))) fun some32 => ((lift (lcO ((some some32).bind dItems) fun one33 => turnO ((chainO dLe dLe (some low28) (some one33) (some high30)).bind asB) (some one33))) fun ds => forK (S := Unit) (fun s34 target38 kk35 => ((lift (C3 m_weighted_size (some weights13) (some order11) (some target38))) fun size39 => (ifK (lift (((C2 r__law_same (some size39) (C1 dLen ((lcO ((some firsts20).bind dItems) fun first40 => turnO ((b2 dLe (some first40) (some target38)).bind asB) (some first40)).map PyData.list))).bind asT).map (!·))) ((lift (some (PyData.bool false))) q) (ifK (lift (((chainO dLt dLe (b2 dSub (some target38) (C1 (dBest max) (some weights13))) (b2 dIx (some firsts20) (b2 dSub (some size39) (some (PyData.int 1)))) (some target38)).bind asB).map (!·))) ((lift (some (PyData.bool false))) q) (kk35 ()))))) ds () fun s37 => (ifK (lift ((b2 dNe (C1 dRepr ((consO (some weights13) (consO (some order11) (some []))).map PyData.tuple)) (some text17)).bind asB)) ((lift (some (PyData.bool false))) q) (kk2 ()))))) c31)) c29))))))))))))) c18)) c16))))) c14)) c12))))) c9)) c7))))) ds () fun s4 => ((lift (some (PyData.bool true))) q))
end Dl

set_option Elab.async false
set_option linter.all false
set_option autoImplicit false
set_option maxRecDepth 100000
set_option maxHeartbeats 4000000
namespace Dl
open PySem L2
def top (i : Nat) : Stmt := PySem.Challenge.pw_rootparts_k23_weights_along_orders.main.body.getD i (.Pass ⟨0, 0, 0, 0⟩)
abbrev s_weight_of : Stmt := top 1
abbrev s_weighted_size : Stmt := top 2
abbrev s_every_cut_weight : Stmt := top 3
abbrev s_even_size : Stmt := top 4
abbrev s__law_open : Stmt := top 6
abbrev s__law_spread : Stmt := top 7
abbrev s__law_take : Stmt := top 8
abbrev s__law_same : Stmt := top 9
abbrev s__law_one_of : Stmt := top 10
abbrev s__law_draw_order : Stmt := top 11
abbrev s_law : Stmt := top 12
structure Tp (K : PySem.W.Frag) (mg : Str → Option Value) where
  f_weight_of : Addr
  fd_weight_of : FuncData
  F_weight_of : Fun K "weight_of" "weight_of" s_weight_of f_weight_of fd_weight_of
  m_weight_of : mg "weight_of" = some (.ref f_weight_of)
  f_weighted_size : Addr
  fd_weighted_size : FuncData
  F_weighted_size : Fun K "weighted_size" "weighted_size" s_weighted_size f_weighted_size fd_weighted_size
  m_weighted_size : mg "weighted_size" = some (.ref f_weighted_size)
  f_every_cut_weight : Addr
  fd_every_cut_weight : FuncData
  F_every_cut_weight : Fun K "every_cut_weight" "every_cut_weight" s_every_cut_weight f_every_cut_weight fd_every_cut_weight
  m_every_cut_weight : mg "every_cut_weight" = some (.ref f_every_cut_weight)
  f_even_size : Addr
  fd_even_size : FuncData
  F_even_size : Fun K "even_size" "even_size" s_even_size f_even_size fd_even_size
  m_even_size : mg "even_size" = some (.ref f_even_size)
  f__law_open : Addr
  fd__law_open : FuncData
  F__law_open : Fun K "_law_open" "_law_open" s__law_open f__law_open fd__law_open
  m__law_open : mg "_law_open" = some (.ref f__law_open)
  f__law_spread : Addr
  fd__law_spread : FuncData
  F__law_spread : Fun K "_law_spread" "_law_spread" s__law_spread f__law_spread fd__law_spread
  m__law_spread : mg "_law_spread" = some (.ref f__law_spread)
  f__law_take : Addr
  fd__law_take : FuncData
  F__law_take : Fun K "_law_take" "_law_take" s__law_take f__law_take fd__law_take
  m__law_take : mg "_law_take" = some (.ref f__law_take)
  f__law_same : Addr
  fd__law_same : FuncData
  F__law_same : Fun K "_law_same" "_law_same" s__law_same f__law_same fd__law_same
  m__law_same : mg "_law_same" = some (.ref f__law_same)
  f__law_one_of : Addr
  fd__law_one_of : FuncData
  F__law_one_of : Fun K "_law_one_of" "_law_one_of" s__law_one_of f__law_one_of fd__law_one_of
  m__law_one_of : mg "_law_one_of" = some (.ref f__law_one_of)
  f__law_draw_order : Addr
  fd__law_draw_order : FuncData
  F__law_draw_order : Fun K "_law_draw_order" "_law_draw_order" s__law_draw_order f__law_draw_order fd__law_draw_order
  m__law_draw_order : mg "_law_draw_order" = some (.ref f__law_draw_order)
  f_law : Addr
  fd_law : FuncData
  F_law : Fun K "law" "law" s_law f_law fd_law
  m_law : mg "law" = some (.ref f_law)
  z_bool : mg "bool" = none
  z_enumerate : mg "enumerate" = none
  z_int : mg "int" = none
  z_isinstance : mg "isinstance" = none
  z_len : mg "len" = none
  z_list : mg "list" = none
  z_max : mg "max" = none
  z_min : mg "min" = none
  z_range : mg "range" = none
  z_repr : mg "repr" = none
  z_sorted : mg "sorted" = none
  z_str : mg "str" = none
  z_sum : mg "sum" = none
  z_tuple : mg "tuple" = none
  z_zip : mg "zip" = none
section
variable {P : Program} {w : World} {K : PySem.W.Frag} {mg : Str → Option Value} {base : Heap}
theorem ok_weight_of (T : Tp K mg) : Kn P w K mg base "weight_of" 1 (spR .dat 2 (F2 m_weight_of)) := by
  refine kn_dat (N := ["weights", "lot", "place"]) (ps := ["weights", "lot"]) T.F_weight_of T.m_weight_of (T.F_weight_of.binds (ps := ["weights", "lot"]) fun _ _ _ _ _ _ us hl => match us, hl with | [_, _], _ => rfl) ⟨rfl, rfl, rfl, by decide +kernel, rfl, by decide +kernel, by decide +kernel⟩ rfl fun cdv A outer s H E B ds hl => ?_
  match ds, hl with
  | [weights1, lot2], _ =>
    show JKE _ _ _ [.dat weights1, .dat lot2, .no] _ _ (m_weight_of weights1 lot2)
    unfold m_weight_of
    exact (jke_ret (JM.by (c1_eq _ _) (je_callB (cr_sumA B.hc) cd_sumA T.z_sum rfl (jae_cons (JLE.je (jle_lc1 (i := 2) (own := [("place", 2)]) B (jie_seq (je_var 1)) (blkOk_by (by rfl)) (fun _ _ _ _ _ => jg_name B.nd) (fun place3 => okTE_nil) (fun place3 => fun _ _ _ _ _ => (je_ix (je_var 0) (je_var 2))))) jae_nil))))
theorem ok_weighted_size (T : Tp K mg) : Kn P w K mg base "weighted_size" 2 (spR .dat 3 (F3 m_weighted_size)) := by
  refine kn_dat (N := ["weights", "order", "target", "size"]) (ps := ["weights", "order", "target"]) T.F_weighted_size T.m_weighted_size (T.F_weighted_size.binds (ps := ["weights", "order", "target"]) fun _ _ _ _ _ _ us hl => match us, hl with | [_, _, _], _ => rfl) ⟨rfl, rfl, rfl, by decide +kernel, rfl, by decide +kernel, by decide +kernel⟩ rfl fun cdv A outer s H E B ds hl => ?_
  match ds, hl with
  | [weights1, order2, target3], _ =>
    show JKE _ _ _ [.dat weights1, .dat order2, .dat target3, .no] _ _ (m_weighted_size weights1 order2 target3)
    unfold m_weighted_size
    exact (jke_ret (JM.by (c1_eq _ _) (je_callB (cr_maxA B.hc B.u64) cd_best T.z_max rfl (jae_cons (JLE.je (jle_lc1 (i := 3) (own := [("size", 3)]) B (jie_range2 T.z_range je_int (JM.by (c1_eq _ _) (je_callB call_len_seq cd_len T.z_len rfl (jae_cons (je_var 1) jae_nil)))) (blkOk_by (by rfl)) (fun _ _ _ _ _ => jg_name B.nd) (fun size4 => okTE_one fun _ _ _ _ _ => (jte_cmp op_le od_le (JM.by (c2_eq _ _ _) (je_kn (Kn.mono (ok_weight_of T)) (B.blk _ _ _ _ _) (jae_cons (je_var 0) (jae_cons (je_slice (je_var 1) jo_none (jo_some (je_var 3))) jae_nil)))) (je_var 2) rfl)) (fun size4 => fun _ _ _ _ _ => (je_var 3)))) jae_nil))))
theorem ok_every_cut_weight (T : Tp K mg) : Kn P w K mg base "every_cut_weight" 2 (spR .lst 2 (F2 m_every_cut_weight)) := by
  refine kn_lst (N := ["weights", "order", "sizes", "size"]) (ps := ["weights", "order"]) T.F_every_cut_weight T.m_every_cut_weight (T.F_every_cut_weight.binds (ps := ["weights", "order"]) fun _ _ _ _ _ _ us hl => match us, hl with | [_, _], _ => rfl) ⟨rfl, rfl, rfl, by decide +kernel, rfl, by decide +kernel, by decide +kernel⟩ rfl fun cdv A outer s H E B ds hl => ?_
  match ds, hl with
  | [weights1, order2], _ =>
    show JKE _ _ _ [.dat weights1, .dat order2, .no, .no] _ _ (m_every_cut_weight weights1 order2)
    unfold m_every_cut_weight
    exact (jke_st (i := 2) (ste_shr (st_setL (jle_rg2 B T.z_list T.z_range je_int (JM.by (c1_eq _ _) (je_callB call_len_seq cd_len T.z_len rfl (jae_cons (je_var 1) jae_nil)))) B.nd)) fun sizes3 => (jke_retL (jle_lc1 (i := 3) (own := [("size", 3)]) B (jie_seq (je_var 2)) (blkOk_by (by rfl)) (fun _ _ _ _ _ => jg_name B.nd) (fun size4 => okTE_nil) (fun size4 => fun _ _ _ _ _ => (je_tup (jae_cons (JM.by (c2_eq _ _ _) (je_kn (Kn.mono (ok_weight_of T)) (B.blk _ _ _ _ _) (jae_cons (je_var 0) (jae_cons (je_slice (je_var 1) jo_none (jo_some (je_var 3))) jae_nil)))) (jae_cons (JM.by (c2_eq _ _ _) (je_kn (Kn.mono (ok_weight_of T)) (B.blk _ _ _ _ _) (jae_cons (je_var 0) (jae_cons (je_slice (je_var 1) (jo_some (je_var 3)) jo_none) jae_nil)))) jae_nil)))))))
theorem ok_even_size (T : Tp K mg) : Kn P w K mg base "even_size" 3 (spR .dat 2 (F2 m_even_size)) := by
  refine kn_dat (N := ["weights", "order", "greater", "pair"]) (ps := ["weights", "order"]) T.F_even_size T.m_even_size (T.F_even_size.binds (ps := ["weights", "order"]) fun _ _ _ _ _ _ us hl => match us, hl with | [_, _], _ => rfl) ⟨rfl, rfl, rfl, by decide +kernel, rfl, by decide +kernel, by decide +kernel⟩ rfl fun cdv A outer s H E B ds hl => ?_
  match ds, hl with
  | [weights1, order2], _ =>
    show JKE _ _ _ [.dat weights1, .dat order2, .no, .no] _ _ (m_even_size weights1 order2)
    unfold m_even_size
    exact (jke_st (i := 2) (ste_shr (ste_lc1 (i := 3) (own := [("pair", 3)]) B (JIE.new (JL.by (c2_eq _ _ _) (jle_kn (Kn.mono (ok_every_cut_weight T)) B (jae_cons (je_var 0) (jae_cons (je_var 1) jae_nil))))) (blkOk_by (by rfl)) (fun _ _ _ _ _ => jg_name B.nd) (fun pair4 => okTE_nil) (fun pair4 => fun _ _ _ _ _ => (JM.by (c1_eq _ _) (je_callB (cr_maxA B.hc B.u64) cd_best T.z_max rfl (jae_cons (je_var 3) jae_nil)))))) fun greater3 => (jke_ret (je_op or_add od_add (je_index B (je_var 2) (JM.by (c1_eq _ _) (je_callB (cr_minA B.hc B.u64) cd_best T.z_min rfl (jae_cons (je_var 2) jae_nil)))) je_int)))
theorem ok__law_open (T : Tp K mg) : Kn P w K mg base "_law_open" 1 (spOpen K m__law_open) := by
  refine kn_open (N := ["script", "cells", "k", "cell"]) (ps := ["script"]) T.F__law_open T.m__law_open (T.F__law_open.binds (ps := ["script"]) fun _ _ _ _ _ _ us hl => match us, hl with | [_], _ => rfl) ⟨rfl, rfl, rfl, by decide +kernel, rfl, by decide +kernel, by decide +kernel⟩ rfl fun cdv A outer s H E B a ns => ?_
  show JKE _ _ _ [.raw (.ref a), .no, .no, .no] _ _ (m__law_open ns)
  exact (jke_stL (i := 1) (st_setL (JL.by (c1_eq _ _) (jle_callTy call_list_of cd_list T.z_list rfl (jae_cons (je_scr 0 jo_none (jo_some je_int)) jae_nil))) B.nd) fun cells1 => (jke_for2 (i := 2) (j := 3) (env := fun (s2 : List D) => [.raw (.ref a), .own s2, .no, .no]) (s0 := cells1) B (jie_enum T.z_enumerate (je_scr 0 (jo_some je_int) (jo_some je_int))) (jg_tup B.hc (jgs_cons (jg_name B.nd) (jgs_cons (jg_name B.nd) jgs_nil))) (.same (.same (.no (.no .nil)))) (fun s2 k6 cell7 kk3 => (jke_setI 1 (JE.lend (je_op or_add od_add (je_ix (je_var 1) (je_op op_mod od_mod (JM.by (c1_eq _ _) (je_callTy call_int1 cd_int T.z_int rfl (jae_cons (je_var 2) jae_nil))) je_int)) (je_var 3))) (je_op op_mod od_mod (JM.by (c1_eq _ _) (je_callTy call_int1 cd_int T.z_int rfl (jae_cons (je_var 2) jae_nil))) je_int) fun cells8 => (jke_nil (wk_ex cells8 (.same (.same (.no (.no .nil)))))))) (fun s5 => (jke_give 1 (jke_retL (jle_lst (jae_cons (je_var 1) (jae_cons je_int (jae_cons je_int jae_nil)))))))))
theorem ok__law_spread (T : Tp K mg) : Kn P w K mg base "_law_spread" 1 (spR .dat 2 (F2 m__law_spread)) := by
  refine kn_dat (N := ["cell", "at", "primes", "one", "two", "three"]) (ps := ["cell", "at"]) T.F__law_spread T.m__law_spread (T.F__law_spread.binds (ps := ["cell", "at"]) fun _ _ _ _ _ _ us hl => match us, hl with | [_, _], _ => rfl) ⟨rfl, rfl, rfl, by decide +kernel, rfl, by decide +kernel, by decide +kernel⟩ rfl fun cdv A outer s H E B ds hl => ?_
  match ds, hl with
  | [cell1, at2], _ =>
    show JKE _ _ _ [.dat cell1, .dat at2, .no, .no, .no, .no] _ _ (m__law_spread cell1 at2)
    unfold m__law_spread
    exact (jke_if (jte_cmp op_ge od_ge (je_var 0) (je_op op_pow od_pow je_int je_int) rfl) (jke_ret (je_var 0)) (jke_nil (jke_st (i := 2) (ste_shr (st_setL (jle_lst (jae_cons je_int (jae_cons je_int (jae_cons je_int (jae_cons je_int (jae_cons je_int (jae_cons je_int (jae_cons je_int (jae_cons je_int jae_nil))))))))) B.nd)) fun primes3 => (jke_st (i := 2) (st_set (je_op or_add od_add (je_var 2) (JLE.je (jle_lst (jae_cons je_int (jae_cons je_int (jae_cons je_int (jae_cons je_int (jae_cons je_int jae_nil)))))))) B.nd) fun primes4 => (jke_st (i := 3) (st_set (je_op or_add od_add (je_op or_add od_add (je_op op_mulW od_mul (je_op op_mod od_mod (JM.by (c1_eq _ _) (je_callTy call_int1 cd_int T.z_int rfl (jae_cons (je_var 0) jae_nil))) je_int) (je_op or_add od_add (je_op op_mulW od_mul je_int (je_var 1)) je_int)) (je_op op_mulW od_mul (je_var 1) je_int)) je_int) B.nd) fun one5 => (jke_st (i := 3) (st_set (je_op op_mod od_mod (JM.by (c1_eq _ _) (je_callTy call_int1 cd_int T.z_int rfl (jae_cons (je_op op_pow od_pow (je_var 3) je_int) jae_nil))) (je_ix (je_var 2) (je_op op_mod od_mod (JM.by (c1_eq _ _) (je_callTy call_int1 cd_int T.z_int rfl (jae_cons (je_var 1) jae_nil))) je_int))) B.nd) fun one6 => (jke_st (i := 4) (st_set (je_op op_mod od_mod (JM.by (c1_eq _ _) (je_callTy call_int1 cd_int T.z_int rfl (jae_cons (je_op op_pow od_pow (je_op or_add od_add (je_op or_add od_add (je_op op_mulW od_mul (je_var 3) (je_op or_add od_add (je_var 1) je_int)) (je_op op_mod od_mod (JM.by (c1_eq _ _) (je_callTy call_int1 cd_int T.z_int rfl (jae_cons (je_var 0) jae_nil))) je_int)) je_int) je_int) jae_nil))) (je_ix (je_var 2) (je_op op_mod od_mod (JM.by (c1_eq _ _) (je_callTy call_int1 cd_int T.z_int rfl (jae_cons (je_op or_add od_add (je_var 1) je_int) jae_nil))) je_int))) B.nd) fun two7 => (jke_st (i := 5) (st_set (je_op op_mod od_mod (JM.by (c1_eq _ _) (je_callTy call_int1 cd_int T.z_int rfl (jae_cons (je_op op_pow od_pow (je_op or_add od_add (je_op or_add od_add (je_var 4) (je_op op_mod od_mod (JM.by (c1_eq _ _) (je_callTy call_int1 cd_int T.z_int rfl (jae_cons (je_var 3) jae_nil))) je_int)) (je_var 1)) je_int) jae_nil))) (je_ix (je_var 2) (je_op op_mod od_mod (JM.by (c1_eq _ _) (je_callTy call_int1 cd_int T.z_int rfl (jae_cons (je_op or_add od_add (je_var 1) je_int) jae_nil))) je_int))) B.nd) fun three8 => (jke_ret (je_op or_add od_add (je_op op_mulW od_mul (je_op or_add od_add (je_op op_mulW od_mul (je_var 3) je_int) (je_var 4)) je_int) (je_var 5)))))))))))
theorem ok__law_take (T : Tp K mg) : Kn P w K mg base "_law_take" 2 (spM .dat 1 (G1 m__law_take)) := by
  refine kn_take (N := ["pen", "amount", "found", "at", "cell"]) (ps := ["pen", "amount"]) (F0 := b__law_take) T.F__law_take T.m__law_take (T.F__law_take.binds (ps := ["pen", "amount"]) fun _ _ _ _ _ _ us hl => match us, hl with | [_, _], _ => rfl) ⟨rfl, rfl, rfl, by decide +kernel, rfl, by decide +kernel, by decide +kernel⟩ rfl take_law fun cdv A outer s H E B pa ca cs amount1 q => ?_
  show JK _ _ _ [.raw (.ref pa), .dat amount1, .no, .no, .no] _ _ _ (b__law_take cs amount1 q)
  unfold b__law_take
  exact (jk_ifJM (env := fun (s2 : Unit) => [.raw (.ref pa), .dat amount1, .no, .no, .no]) (jt_cmpM (or_lt B.u0) od_lt (jm_pix 0 (by decide)) (je_var 1) rfl) (fun kk3 => (jk_st (i := 3) (st_set (jm_pix 0 (by decide)) B.nd) fun at4 => (jk_st (i := 4) (st_set je_int B.nd) fun cell5 => (jk_ifJM (env := fun (s6 : D) => [.raw (.ref pa), .dat amount1, .no, .dat at4, .dat s6]) (jt_cmpM (or_lt B.u0) od_lt (je_var 3) (jm_callBM call_len_seq cd_len T.z_len rfl (jam_cons (jm_pix 0 (by decide)) jam_nil)) rfl) (fun kk7 => (jk_st (i := 4) (st_set (jm_ixM (jm_pix 0 (by decide)) (je_var 3)) B.nd) fun cell8 => (jk_nil (wk_exM cell8 (.same (.same (.no (.same (.same .nil))))))))) (fun kk7 => (jk_ifM (jt_cmpM op_gt od_gt (jm_callBM call_len_seq cd_len T.z_len rfl (jam_cons (jm_pix 0 (by decide)) jam_nil)) je_int rfl) (jk_st (i := 4) (st_set (jm_opM op_mod od_mod (jm_callTyM call_int1 cd_int T.z_int rfl (jam_cons (jm_ixM (jm_pix 0 (by decide)) (jm_opM op_mod od_mod (JM.by (c1_eq _ _) (je_callTy call_int1 cd_int T.z_int rfl (jae_cons (je_op or_add od_add (je_op op_mulW od_mul (je_var 3) je_int) je_int) jae_nil))) (jm_callBM call_len_seq cd_len T.z_len rfl (jam_cons (jm_pix 0 (by decide)) jam_nil)))) jam_nil)) (je_op or_add od_add (je_op op_pow od_pow je_int je_int) (je_var 3))) B.nd) fun cell9 => (jk_nil (jk_nil (wk_exM cell9 (.same (.same (.no (.same (.same .nil))))))))) (jk_nil (jk_nil (wk_exM cell5 (.same (.same (.no (.same (.same .nil)))))))))) (fun s6 => (jk_pset 0 (je_op or_add od_add (je_var 3) je_int) (jk_pset 0 (JM.by (c2_eq _ _ _) (je_kn (Kn.mono (ok__law_spread T)) B (jae_cons (je_var 4) (jae_cons (je_var 3) jae_nil)))) (jk_nil (wk_exM () (.same (.same (.no (.no (.no .nil)))))))))))))) (fun kk3 => (jk_nil (wk_exM () (.same (.same (.no (.no (.no .nil)))))))) (fun s2 => (jk_st (i := 2) (st_set (jm_opM op_mod od_mod (jm_callTyM call_int1 cd_int T.z_int rfl (jam_cons (jm_pix 0 (by decide)) jam_nil)) (je_var 1)) B.nd) fun found10 => (jk_pset 0 (jm_opM op_fdivW od_fdiv (jm_pix 0 (by decide)) (je_var 1)) (jk_ret (je_var 2))))))
theorem ok__law_same_at (T : Tp K mg) : ∀ n : Nat, Kn P w K mg base "_law_same" (0 + n) (spR .dat 2 (F2 (m__law_same n)))
  | 0 => kn_none T.F__law_same T.m__law_same (T.F__law_same.binds (ps := ["found", "due"]) fun _ _ _ _ _ _ us hl => match us, hl with | [_, _], _ => rfl) fun ds => by
    unfold F2
    split <;> rfl
  | n + 1 => by
    have ih := ok__law_same_at T n
    refine kn_dat (N := ["found", "due", "one", "other"]) (ps := ["found", "due"]) T.F__law_same T.m__law_same (T.F__law_same.binds (ps := ["found", "due"]) fun _ _ _ _ _ _ us hl => match us, hl with | [_, _], _ => rfl) ⟨rfl, rfl, rfl, by decide +kernel, rfl, by decide +kernel, by decide +kernel⟩ rfl fun cdv A outer s H E B ds hl => ?_
    match ds, hl with
    | [found1, due2], _ =>
      show JKE _ _ _ [.dat found1, .dat due2, .no, .no] _ _ (b__law_same (m__law_same n) found1 due2)
      exact (jke_if (JW.jt (jwe_or (jte_cmp op_isN od_isN (je_var 1) je_non rfl) (jwe_or1 (jte_cmp op_isN od_isN (je_var 0) je_non rfl)))) (jke_ret (je_and (je_cmp op_isN od_isN (je_var 1) je_non rfl) (je_one (je_cmp op_isN od_isN (je_var 0) je_non rfl)))) (jke_nil (jke_if (JW.jt (jwe_or (jte_tru (je_isi (je_var 1) T.z_isinstance T.z_bool rfl rfl)) (jwe_or1 (jte_tru (je_isi (je_var 0) T.z_isinstance T.z_bool rfl rfl))))) (jke_ret (je_and (je_isi (je_var 1) T.z_isinstance T.z_bool rfl rfl) (je_and (je_isi (je_var 0) T.z_isinstance T.z_bool rfl rfl) (je_one (je_cmp (or_eq B.u64) od_eq (je_var 0) (je_var 1) rfl))))) (jke_nil (jke_if (jte_tru (je_isi2 (je_var 1) T.z_isinstance T.z_int rfl rfl T.z_str rfl rfl)) (jke_if (jte_cmp (or_ne B.u64) od_ne (je_isi (je_var 0) T.z_isinstance T.z_int rfl rfl) (je_isi (je_var 1) T.z_isinstance T.z_int rfl rfl) rfl) (jke_ret je_bl) (jke_nil (jke_ret (je_and (je_isi2 (je_var 0) T.z_isinstance T.z_int rfl rfl T.z_str rfl rfl) (je_one (je_cmp (or_eq B.u64) od_eq (je_var 0) (je_var 1) rfl)))))) (jke_nil (jke_if (JW.jt (jwe_or (jte_cmp (or_ne B.u64) od_ne (je_isi (je_var 1) T.z_isinstance T.z_tuple rfl rfl) (je_isi (je_var 0) T.z_isinstance T.z_tuple rfl rfl) rfl) (jwe_or1 (jte_cmp (or_ne B.u64) od_ne (je_isi (je_var 1) T.z_isinstance T.z_list rfl rfl) (je_isi (je_var 0) T.z_isinstance T.z_list rfl rfl) rfl)))) (jke_ret je_bl) (jke_nil (jke_if (jte_cmp (or_ne B.u64) od_ne (JM.by (c1_eq _ _) (je_callB call_len_seq cd_len T.z_len rfl (jae_cons (je_var 0) jae_nil))) (JM.by (c1_eq _ _) (je_callB call_len_seq cd_len T.z_len rfl (jae_cons (je_var 1) jae_nil))) rfl) (jke_ret je_bl) (jke_nil (jke_ret (je_cmp (or_notIn B.u65) od_in je_bl (JLE.je (jle_lc2 (i1 := 2) (i2 := 3) (own := [("one", 2), ("other", 3)]) B (jie_zip T.z_zip (je_var 0) (je_var 1)) (blkOk_by (by rfl)) (fun _ _ _ _ _ => jg_tup B.hc (jgs_cons (jg_name B.nd) (jgs_cons (jg_name B.nd) jgs_nil))) (fun one3 other4 => okTE_nil) (fun one3 other4 => fun _ _ _ _ _ => (JM.by (c2_eq _ _ _) (je_kn ih (B.blk _ _ _ _ _) (jae_cons (je_var 2) (jae_cons (je_var 3) jae_nil))))))) rfl))))))))))))
theorem ok__law_same (T : Tp K mg) : Kn P w K mg base "_law_same" 40 (spR .dat 2 (F2 r__law_same)) := by
  unfold r__law_same
  exact ok__law_same_at T 40
theorem ok__law_one_of (T : Tp K mg) : Kn P w K mg base "_law_one_of" 3 (spM .dat 1 (G1 m__law_one_of)) := by
  refine kn_pen (N := ["pen", "some"]) (ps := ["pen", "some"]) T.F__law_one_of T.m__law_one_of (T.F__law_one_of.binds (ps := ["pen", "some"]) fun _ _ _ _ _ _ us hl => match us, hl with | [_, _], _ => rfl) ⟨rfl, rfl, rfl, by decide +kernel, rfl, by decide +kernel, by decide +kernel⟩ rfl fun cdv A outer s H E B pa ca cs ds hl q => ?_
  match ds, hl with
  | [some1], _ =>
    show JK _ _ _ [.raw (.ref pa), .dat some1] _ _ _ (m__law_one_of some1 q)
    unfold m__law_one_of
    exact (jk_ret (jm_ixM (je_var 1) (jm_pn 0 (Kn.mono (ok__law_take T)) B (jam_cons (JM.by (c1_eq _ _) (je_callB call_len_seq cd_len T.z_len rfl (jae_cons (je_var 1) jae_nil))) jam_nil))))
theorem ok__law_draw_order (T : Tp K mg) : Kn P w K mg base "_law_draw_order" 3 (spM .dat 1 (G1 m__law_draw_order)) := by
  refine kn_pen (N := ["pen", "n", "turn", "left", "found"]) (ps := ["pen", "n"]) T.F__law_draw_order T.m__law_draw_order (T.F__law_draw_order.binds (ps := ["pen", "n"]) fun _ _ _ _ _ _ us hl => match us, hl with | [_, _], _ => rfl) ⟨rfl, rfl, rfl, by decide +kernel, rfl, by decide +kernel, by decide +kernel⟩ rfl fun cdv A outer s H E B pa ca cs ds hl q => ?_
  match ds, hl with
  | [n1], _ =>
    show JK _ _ _ [.raw (.ref pa), .dat n1, .no, .no, .no] _ _ _ (m__law_draw_order n1 q)
    unfold m__law_draw_order
    exact (jk_par (i := 3) (j := 4) B (jc_own (jle_rg1 B T.z_list T.z_range (je_var 1)) (jc_own (jle_lst jae_nil) jc_nil)) (by decide) rfl rfl rfl (fun c3 c5 => (jk_onL (f := fun c => [.raw (.ref pa), .dat n1, .no, c, c5]) (fun left2 => (jk_onL (f := fun c => [.raw (.ref pa), .dat n1, .no, .own left2, c]) (fun found4 => (jk_for1 (i := 2) (env := fun (s6 : List D × List D) => [.raw (.ref pa), .dat n1, .no, .own s6.1, .own s6.2]) (s0 := (left2, found4)) B (jie_range1 T.z_range (je_var 1)) (jg_name B.nd) (.same (.same (.no (.same (.same .nil))))) (fun s6 turn10 kk7 => (jk_appPop 4 3 (JM.lendM' (jm_pn 0 (Kn.mono (ok__law_take T)) B (jam_cons (JM.by (c1_eq _ _) (je_callB call_len_seq cd_len T.z_len rfl (jae_cons (je_var 3) jae_nil))) jam_nil))) (fun found11 left12 => (jk_nil (wk_exM (left12, found11) (.same (.same (.no (.same (.same .nil)))))))))) (fun s9 => (jk_give 4 (jk_ret (JM.by (c1_eq _ _) (je_callTy call_tuple_of cd_tuple T.z_tuple rfl (jae_cons (je_var 4) jae_nil)))))))))))))
theorem ok_law (T : Tp K mg) (hL : m_law qTrue 0) : FnG P w K mg base CX0 200 T.f_law T.fd_law ["script"] (spLaw K) := by
  refine FnG.mono (law_g (N := ["script", "pen", "turn", "firsts", "whole", "pairs", "greater", "some", "target", "n", "most", "order", "weights", "lot", "text", "low", "high", "size", "first", "pair", "one", "place"]) (ps := ["script"]) (i := 1) (k := 40) (L := fun _ => m_law qTrue) T.F_law ⟨rfl, rfl, rfl, by decide +kernel, rfl, by decide +kernel, by decide +kernel⟩ rfl rfl (by decide) (by decide) law_open_ok (fun _ => hL) (fun cdv A outer s H E B a => ps_open 1 B (Kn.mono (ok__law_open T))) (fun cdv A outer s H E B a pa ca cs => ?_)) (by omega)
  show JK _ _ _ [.raw (.ref a), .raw (.ref pa), .no, .no, .no, .no, .no, .no, .no, .no, .no, .no, .no, .no, .no, .no, .no, .no, .no, .no, .no, .no] _ _ _ (m_law qTrue)
  unfold m_law
  exact (jk_for1 (i := 2) (env := fun (s1 : Unit) => [.raw (.ref a), .raw (.ref pa), .no, .no, .no, .no, .no, .no, .no, .no, .no, .no, .no, .no, .no, .no, .no, .no, .no, .no, .no, .no]) (s0 := ()) B (jie_range1 T.z_range je_int) (jg_name B.nd) (.same (.same (.no (.no (.no (.no (.no (.no (.no (.no (.no (.no (.no (.no (.no (.no (.no (.no (.no (.no (.no (.no .nil)))))))))))))))))))))) (fun s1 turn5 kk2 => (jk_parC (i := 9) (j := 10) B (jc_dat (jm_opM or_add od_add je_int (jm_pn 1 (Kn.mono (ok__law_take T)) B (jam_cons je_int jam_nil))) (jc_dat (jm_pn 1 (Kn.mono (ok__law_one_of T)) B (jam_cons (JLE.je (jle_lst (jae_cons je_int (jae_cons je_int (jae_cons (je_op op_pow od_pow je_int je_int) (jae_cons (je_op op_pow od_pow je_int je_int) jae_nil)))))) jam_nil)) jc_nil)) (fun c7 c9 => (jk_onD (f := fun c => [.raw (.ref a), .raw (.ref pa), .dat turn5, .no, .no, .no, .no, .no, .no, c, c9, .no, .no, .no, .no, .no, .no, .no, .no, .no, .no, .no]) (fun n6 => (jk_onD (f := fun c => [.raw (.ref a), .raw (.ref pa), .dat turn5, .no, .no, .no, .no, .no, .no, .dat n6, c, .no, .no, .no, .no, .no, .no, .no, .no, .no, .no, .no]) (fun most8 => (jk_parC (i := 11) (j := 12) B (jc_dat (jm_pn 1 (Kn.mono (ok__law_draw_order T)) B (jam_cons (je_var 9) jam_nil)) (jc_dat (jm_callTyM call_tuple_of cd_tuple T.z_tuple rfl (jam_cons (JL.jmM (jl_lc1M (i := 21) (own := [("place", 21)]) B (jie_range1 T.z_range (je_var 9)) (blkOk_by (by rfl)) (fun _ _ _ _ _ => jg_name B.nd) (fun place10 => okT_nilM) (fun place10 => fun _ _ _ _ _ => (jm_opM or_add od_add je_int (jm_pn 1 (Kn.mono (ok__law_take T)) (B.blk _ _ _ _ _) (jam_cons (je_var 10) jam_nil)))))) jam_nil)) jc_nil)) (fun c12 c14 => (jk_onD (f := fun c => [.raw (.ref a), .raw (.ref pa), .dat turn5, .no, .no, .no, .no, .no, .no, .dat n6, .dat most8, c, c14, .no, .no, .no, .no, .no, .no, .no, .no, .no]) (fun order11 => (jk_onD (f := fun c => [.raw (.ref a), .raw (.ref pa), .dat turn5, .no, .no, .no, .no, .no, .no, .dat n6, .dat most8, .dat order11, c, .no, .no, .no, .no, .no, .no, .no, .no, .no]) (fun weights13 => (jk_par (i := 13) (j := 14) B (jc_dat (jm_callTyM call_tuple_of cd_tuple T.z_tuple rfl (jam_cons (JL.jmM (jl_callBM (cr_sort B.u64) cd_sort T.z_sorted rfl (jam_cons (jm_sliceM (je_var 11) jo_none (jo_someM (jm_pn 1 (Kn.mono (ok__law_take T)) B (jam_cons (je_op or_add od_add (je_var 9) je_int) jam_nil)))) jam_nil))) jam_nil)) (jc_dat (JM.by (c1_eq _ _) (je_callB (cr_repr B.hg B.u64) cd_repr T.z_repr rfl (jae_cons (je_tup (jae_cons (je_var 12) (jae_cons (je_var 11) jae_nil))) jae_nil))) jc_nil)) (by decide) rfl rfl rfl (fun c16 c18 => (jk_onD (f := fun c => [.raw (.ref a), .raw (.ref pa), .dat turn5, .no, .no, .no, .no, .no, .no, .dat n6, .dat most8, .dat order11, .dat weights13, c, c18, .no, .no, .no, .no, .no, .no, .no]) (fun lot15 => (jk_onD (f := fun c => [.raw (.ref a), .raw (.ref pa), .dat turn5, .no, .no, .no, .no, .no, .no, .dat n6, .dat most8, .dat order11, .dat weights13, .dat lot15, c, .no, .no, .no, .no, .no, .no, .no]) (fun text17 => (jk_ifM (jte_not (jte_tru (JM.by (c2_eq _ _ _) (je_kn (Kn.mono (ok__law_same T)) B (jae_cons (JM.by (c2_eq _ _ _) (je_kn (Kn.mono (ok_weight_of T)) B (jae_cons (je_var 12) (jae_cons (je_var 13) jae_nil)))) (jae_cons (JM.by (c1_eq _ _) (je_callB (cr_sumA B.hc) cd_sumA T.z_sum rfl (jae_cons (JLE.je (jle_lc1 (i := 21) (own := [("place", 21)]) B (jie_seq (je_var 13)) (blkOk_by (by rfl)) (fun _ _ _ _ _ => jg_name B.nd) (fun place19 => okTE_nil) (fun place19 => fun _ _ _ _ _ => (je_ix (je_var 12) (je_var 21))))) jae_nil))) jae_nil)))))) (jk_ret je_bl) (jk_nil (jk_st (i := 3) (st_shr (ste_lc1 (i := 17) (own := [("size", 17)]) B (jie_range2 T.z_range je_int (je_var 9)) (blkOk_by (by rfl)) (fun _ _ _ _ _ => jg_name B.nd) (fun size21 => okTE_nil) (fun size21 => fun _ _ _ _ _ => (JM.by (c1_eq _ _) (je_callB (cr_sumA B.hc) cd_sumA T.z_sum rfl (jae_cons (JLE.je (jle_lc1 (i := 21) (own := [("place", 21)]) (B.blk _ _ _ _ _) (jie_seq (je_slice (je_var 11) jo_none (jo_some (je_var 17)))) (blkOk_by (by rfl)) (fun _ _ _ _ _ => jg_name B.nd) (fun place22 => okTE_nil) (fun place22 => fun _ _ _ _ _ => (je_ix (je_var 12) (je_var 21))))) jae_nil)))))) fun firsts20 => (jk_st (i := 4) (st_set (JM.by (c1_eq _ _) (je_callB (cr_sumA B.hc) cd_sumA T.z_sum rfl (jae_cons (je_var 12) jae_nil))) B.nd) fun whole23 => (jk_st (i := 5) (st_shr (ste_lc1 (i := 18) (own := [("first", 18)]) B (jie_seq (je_var 3)) (blkOk_by (by rfl)) (fun _ _ _ _ _ => jg_name B.nd) (fun first25 => okTE_nil) (fun first25 => fun _ _ _ _ _ => (je_tup (jae_cons (je_var 18) (jae_cons (je_op op_sub od_sub (je_var 4) (je_var 18)) jae_nil)))))) fun pairs24 => (jk_clear (JL.by (c2_eq _ _ _) (jle_kn (Kn.mono (ok_every_cut_weight T)) B (jae_cons (je_var 12) (jae_cons (je_var 11) jae_nil)))) (jk_ifM (jte_not (jte_tru (JM.by (c2_eq _ _ _) (je_kn (Kn.mono (ok__law_same T)) B (jae_cons (JLE.je (JL.by (c2_eq _ _ _) (jle_kn (Kn.mono (ok_every_cut_weight T)) B (jae_cons (je_var 12) (jae_cons (je_var 11) jae_nil))))) (jae_cons (je_var 5) jae_nil)))))) (jk_ret je_bl) (jk_nil (jk_st (i := 6) (st_shr (ste_lc1 (i := 19) (own := [("pair", 19)]) B (jie_seq (je_var 5)) (blkOk_by (by rfl)) (fun _ _ _ _ _ => jg_name B.nd) (fun pair27 => okTE_nil) (fun pair27 => fun _ _ _ _ _ => (JM.by (c1_eq _ _) (je_callB (cr_maxA B.hc B.u64) cd_best T.z_max rfl (jae_cons (je_var 19) jae_nil)))))) fun greater26 => (jk_ifM (jte_not (jte_tru (JM.by (c2_eq _ _ _) (je_kn (Kn.mono (ok__law_same T)) B (jae_cons (JM.by (c2_eq _ _ _) (je_kn (Kn.mono (ok_even_size T)) B (jae_cons (je_var 12) (jae_cons (je_var 11) jae_nil)))) (jae_cons (je_op or_add od_add (je_index B (je_var 6) (JM.by (c1_eq _ _) (je_callB (cr_minA B.hc B.u64) cd_best T.z_min rfl (jae_cons (je_var 6) jae_nil)))) je_int) jae_nil)))))) (jk_ret je_bl) (jk_nil (jk_parC (i := 15) (j := 16) B (jc_dat (je_ix (je_var 12) (je_ix (je_var 11) je_int)) (jc_dat (je_op op_sub od_sub (je_op op_sub od_sub (je_var 4) (je_ix (je_var 12) (je_ix (je_var 11) (je_op op_sub od_sub (je_var 9) je_int)))) je_int) jc_nil)) (fun c29 c31 => (jk_onD (f := fun c => [.raw (.ref a), .raw (.ref pa), .dat turn5, .dat firsts20, .dat whole23, .dat pairs24, .dat greater26, .no, .no, .dat n6, .dat most8, .dat order11, .dat weights13, .dat lot15, .dat text17, c, c31, .no, .no, .no, .no, .no]) (fun low28 => (jk_onD (f := fun c => [.raw (.ref a), .raw (.ref pa), .dat turn5, .dat firsts20, .dat whole23, .dat pairs24, .dat greater26, .no, .no, .dat n6, .dat most8, .dat order11, .dat weights13, .dat lot15, .dat text17, .dat low28, c, .no, .no, .no, .no, .no]) (fun high30 => (jk_st (i := 7) (st_shr (st_setL (jl_lstM (jam_cons (je_var 15) (jam_cons (je_var 16) (jam_cons (jm_opM or_add od_add (je_var 15) (jm_pn 1 (Kn.mono (ok__law_take T)) B (jam_cons (JM.by (c2_eq _ _ _) (je_callB (call_max2 B.hc) cd_max2 T.z_max rfl (jae_cons je_int (jae_cons (je_op or_add od_add (je_op op_sub od_sub (je_var 16) (je_var 15)) je_int) jae_nil)))) jam_nil))) (jam_cons (jm_ixM (je_var 3) (jm_pn 1 (Kn.mono (ok__law_take T)) B (jam_cons (je_op op_sub od_sub (je_var 9) je_int) jam_nil))) jam_nil))))) B.nd)) fun some32 => (jk_for1 (i := 8) (env := fun (s34 : Unit) => [.raw (.ref a), .raw (.ref pa), .dat turn5, .dat firsts20, .dat whole23, .dat pairs24, .dat greater26, .dat some32, .no, .dat n6, .dat most8, .dat order11, .dat weights13, .dat lot15, .dat text17, .dat low28, .dat high30, .no, .no, .no, .no, .no]) (s0 := ()) B (JIE.new (jle_lc1 (i := 20) (own := [("one", 20)]) B (jie_seq (je_var 7)) (blkOk_by (by rfl)) (fun _ _ _ _ _ => jg_name B.nd) (fun one33 => okTE_one fun _ _ _ _ _ => (jte_chain op_le op_le od_le od_le (je_var 15) (je_var 20) (je_var 16))) (fun one33 => fun _ _ _ _ _ => (je_var 20)))) (jg_name B.nd) (.same (.same (.same (.same (.same (.same (.same (.same (.no (.same (.same (.same (.same (.same (.same (.same (.same (.no (.no (.no (.no (.no .nil)))))))))))))))))))))) (fun s34 target38 kk35 => (jk_st (i := 17) (st_set (JM.by (c3_eq _ _ _ _) (je_kn (Kn.mono (ok_weighted_size T)) B (jae_cons (je_var 12) (jae_cons (je_var 11) (jae_cons (je_var 8) jae_nil))))) B.nd) fun size39 => (jk_ifM (jte_not (jte_tru (JM.by (c2_eq _ _ _) (je_kn (Kn.mono (ok__law_same T)) B (jae_cons (je_var 17) (jae_cons (JM.by (c1_eq _ _) (je_callB call_len_seq cd_len T.z_len rfl (jae_cons (JLE.je (jle_lc1 (i := 18) (own := [("first", 18)]) B (jie_seq (je_var 3)) (blkOk_by (by rfl)) (fun _ _ _ _ _ => jg_name B.nd) (fun first40 => okTE_one fun _ _ _ _ _ => (jte_cmp op_le od_le (je_var 18) (je_var 8) rfl)) (fun first40 => fun _ _ _ _ _ => (je_var 18)))) jae_nil))) jae_nil)))))) (jk_ret je_bl) (jk_nil (jk_ifM (jte_not (jte_chain (or_lt B.u0) op_le od_lt od_le (je_op op_sub od_sub (je_var 8) (JM.by (c1_eq _ _) (je_callB (cr_maxA B.hc B.u64) cd_best T.z_max rfl (jae_cons (je_var 12) jae_nil)))) (je_ix (je_var 3) (je_op op_sub od_sub (je_var 17) je_int)) (je_var 8))) (jk_ret je_bl) (jk_nil (jk_nil (wk_exM () (.same (.same (.same (.same (.same (.same (.same (.same (.no (.same (.same (.same (.same (.same (.same (.same (.same (.no (.no (.no (.no (.no .nil)))))))))))))))))))))))))))))) (fun s37 => (jk_ifM (jte_cmp (or_ne B.u64) od_ne (JM.by (c1_eq _ _) (je_callB (cr_repr B.hg B.u64) cd_repr T.z_repr rfl (jae_cons (je_tup (jae_cons (je_var 12) (jae_cons (je_var 11) jae_nil))) jae_nil))) (je_var 14) rfl) (jk_ret je_bl) (jk_nil (jk_nil (wk_exM () (.same (.same (.no (.no (.no (.no (.no (.no (.no (.no (.no (.no (.no (.no (.no (.no (.no (.no (.no (.no (.no (.no .nil))))))))))))))))))))))))))))))))))))))))))))))))))))))))))))))))) (fun s4 => (jk_ret je_bl)))
end
end Dl

set_option Elab.async false
set_option linter.all false
set_option autoImplicit false
set_option maxRecDepth 100000
set_option maxHeartbeats 1000000
namespace Dl
open PySem L2
/-! ### weights along an order -/
def wt (ws : List Int) (lot : List Nat) : Int := (lot.map fun i => ws.getD i 0).sum
def tupI (ws : List Int) : D := .tuple (ws.map PyData.int)
theorem ix_w {ws : List Int} {i : Nat} (h : i < ws.length) : b2 dIx (some (tupI ws)) (some (.int (i : Nat))) = some (.int (ws.getD i 0)) := by
  rw [b2_some]
  unfold tupI
  rw [dIx_tup (by omega) (by rw [List.length_map]; omega), Int.toNat_natCast]
  simp [h]
theorem sum_ints (ns : List Int) : C1 dSum (some (.list (ns.map PyData.int))) = some (.int ns.sum) := by
  show (intsOf (ns.map PyData.int)).map _ = _
  rw [intsOf_map]
  rfl
theorem sum_intsT (ns : List Int) : C1 dSum (some (tupI ns)) = some (.int ns.sum) := by
  show (intsOf (ns.map PyData.int)).map _ = _
  rw [intsOf_map]
  rfl
theorem weight_eval {ws : List Int} {lot : List Nat} {o : Option (List D)} (ho : o = some (ofN lot)) (h : ∀ i ∈ lot, i < ws.length) (hl : lot.length < sizeLine) :
    C1 dSum ((lcO o fun place3 => turnO (some true) (b2 dIx (some (tupI ws)) (some place3))).map PyData.list) = some (.int (wt ws lot)) := by
  rw [lcO_map (h := fun i => PyData.int (ws.getD i 0)) lot ho hl fun i hi => ix_w (h i hi)]
  have e : lot.map (fun i => PyData.int (ws.getD i 0)) = (lot.map fun i => ws.getD i 0).map PyData.int := by rw [List.map_map]; rfl
  rw [e]
  exact sum_ints _
theorem weight_of_eval {ws : List Int} {lot : List Nat} (h : ∀ i ∈ lot, i < ws.length) (hl : lot.length < sizeLine) : C2 m_weight_of (some (tupI ws)) (some (.tuple (ofN lot))) = some (.int (wt ws lot)) := by
  show m_weight_of (tupI ws) (.tuple (ofN lot)) = _
  unfold m_weight_of
  exact weight_eval rfl h hl
theorem take_eval (xs : List Nat) (k : Nat) : slO (some (.tuple (ofN xs))) (some none) ((some (PyData.int (k : Nat))).bind asI) = some (.tuple (ofN (xs.take k))) := by
  rw [asI_int, slO_some]
  show some (PyData.tuple (cutD _ none (some (k : Int)))) = _
  rw [cutD_lo]
  unfold ofN
  rw [List.map_take]
theorem drop_eval (xs : List Nat) (k : Nat) (h : k ≤ xs.length) : slO (some (.tuple (ofN xs))) ((some (PyData.int (k : Nat))).bind asI) (some none) = some (.tuple (ofN (xs.drop k))) := by
  rw [asI_int, slO_some]
  show some (PyData.tuple (cutD _ (some (k : Int)) none)) = _
  unfold cutD
  rw [HT.sIx_none, HT.sIx_nat, ofN_len, Nat.min_eq_left h]
  unfold ofN
  rw [List.map_drop, List.take_of_length_le (by simp)]
theorem rangeD1 (n : Nat) : rangeD 1 (n : Int) = (List.range (n - 1)).map fun (i : Nat) => PyData.int ((i + 1 : Nat) : Int) := by
  unfold rangeD
  have e : ((n : Int) - 1).toNat = n - 1 := by omega
  rw [e]
  exact List.map_congr_left fun i _ => by
    have : (1 : Int) + (i : Int) = ((i + 1 : Nat) : Int) := by omega
    rw [this]
theorem c2_some {β : Type} (f : D → D → Option β) (a b : D) : C2 f (some a) (some b) = f a b := rfl
theorem sum_perm {xs ys : List Int} (h : xs.Perm ys) : xs.sum = ys.sum := by
  induction h with
  | nil => rfl
  | cons x _ ih => simp [ih]
  | swap x y l => simp; omega
  | trans _ _ a b => exact a.trans b
def cuts (ws : List Int) (xs : List Nat) : List D := (List.range (xs.length - 1)).map fun i => PyData.tuple [.int (wt ws (xs.take (i + 1))), .int (wt ws (xs.drop (i + 1)))]
theorem rg_eval {n : Nat} (hn : n < 100000) : dRg2 (.int 1) (.int (n : Int)) = some (rangeD 1 (n : Int)) := by
  have h : rgOk 1 (n : Int) = true := by
    simp only [rgOk, decide_eq_true_eq]
    omega
  simp only [dRg2, h, if_true]
theorem len_eval (xs : List Nat) : C1 dLen (some (PyData.tuple (ofN xs))) = some (.int (xs.length : Nat)) := by
  show some (PyData.int ((ofN xs).length : Nat)) = _
  rw [ofN_len]
theorem cut_one {ws : List Int} {xs : List Nat} (h : ∀ i ∈ xs, i < ws.length) (hz : xs.length < sizeLine) (i : Nat) (hi : i < xs.length - 1) :
    (consO (C2 m_weight_of (some (tupI ws)) (slO (some (.tuple (ofN xs))) (some none) ((some (PyData.int ((i + 1 : Nat) : Int))).bind asI))) (consO (C2 m_weight_of (some (tupI ws)) (slO (some (.tuple (ofN xs))) ((some (PyData.int ((i + 1 : Nat) : Int))).bind asI) (some none))) (some []))).map PyData.tuple = some (PyData.tuple [.int (wt ws (xs.take (i + 1))), .int (wt ws (xs.drop (i + 1)))]) := by
  have l1 : (xs.take (i + 1)).length < sizeLine := by rw [List.length_take]; omega
  have l2 : (xs.drop (i + 1)).length < sizeLine := by rw [List.length_drop]; omega
  rw [take_eval, drop_eval xs (i + 1) (by omega), weight_of_eval (fun j hj => h j (List.mem_of_mem_take hj)) l1, weight_of_eval (fun j hj => h j (List.mem_of_mem_drop hj)) l2]
  rfl
theorem items_list (xs : List D) : (some (PyData.list xs)).bind dItems = some xs := rfl
theorem cuts_eval {ws : List Int} {xs : List Nat} (h : ∀ i ∈ xs, i < ws.length) (hl : xs.length < 100000) : C2 m_every_cut_weight (some (tupI ws)) (some (.tuple (ofN xs))) = some (cuts ws xs) := by
  have hz : xs.length < sizeLine := by rw [sizeLine_eq]; omega
  rw [c2_some]
  unfold m_every_cut_weight
  rw [len_eval, c2_some, rg_eval hl, Option.map_some, Option.bind_some, items_list, rangeD1]
  exact lcO_map (g := fun (i : Nat) => PyData.int ((i + 1 : Nat) : Int)) (List.range (xs.length - 1)) rfl (by rw [List.length_range]; omega) fun i hi => cut_one h hz i (List.mem_range.mp hi)
theorem wt_app (ws : List Int) (a b : List Nat) : wt ws (a ++ b) = wt ws a + wt ws b := by simp [wt]
theorem wt_split (ws : List Int) (xs : List Nat) (k : Nat) : wt ws (xs.drop k) = wt ws xs - wt ws (xs.take k) := by
  have := wt_app ws (xs.take k) (xs.drop k)
  rw [List.take_append_drop] at this
  omega
theorem wt_perm {ws : List Int} {xs ys : List Nat} (h : xs.Perm ys) : wt ws xs = wt ws ys := by
  unfold wt
  exact sum_perm (h.map _)
theorem wt_range (ws : List Int) : wt ws (List.range ws.length) = ws.sum := by
  unfold wt
  congr 1
  refine List.ext_getElem (by simp) fun i h1 h2 => ?_
  simp [h2]
theorem best_pair (f : Int → Int → Int) (a b : Int) : C1 (dBest f) (some (PyData.tuple [.int a, .int b])) = some (.int (f a b)) := rfl
theorem best_list (f : Int → Int → Int) (n : Int) (ns : List Int) : C1 (dBest f) (some (.list ((n :: ns).map PyData.int))) = some (.int (ns.foldl f n)) := by
  rw [c1_some]
  unfold dBest
  rw [show dItems (.list ((n :: ns).map PyData.int)) = some ((n :: ns).map PyData.int) from rfl, Option.bind_some, intsOf_map]
theorem shaped_ints (ns : List Int) : SeqAt.shaped (.list (ns.map PyData.int)) = true := by
  have h1 : PyData.canLayAll0 (ns.map PyData.int) = true := by
    induction ns with
    | nil => rfl
    | cons n ns ih => simp [PyData.canLayAll0, PyData.canLay0, ih]
  have h2 : PyData.depthAll (ns.map PyData.int) = 0 := PySem.W.depth_ints ns
  simp [SeqAt.shaped, PyData.canLay0, PyData.depth, h1, h2]
theorem min_mem (n : Int) (ns : List Int) : ns.foldl min n ∈ n :: ns := by
  induction ns generalizing n with
  | nil => simp
  | cons m ns ih =>
    show ns.foldl min (min n m) ∈ _
    rcases List.mem_cons.mp (ih (min n m)) with e | e
    · rw [e]
      by_cases h : n ≤ m
      · rw [Int.min_eq_left h]; simp
      · rw [Int.min_eq_right (by omega)]; simp
    · simp [e]
theorem idx_min (n : Int) (ns : List Int) : ∃ j : Nat, idxO (some (.list ((n :: ns).map PyData.int))) (C1 (dBest min) (some (.list ((n :: ns).map PyData.int)))) = some (.int (j : Nat)) := by
  rw [best_list]
  show ∃ j : Nat, dIndex (.list ((n :: ns).map PyData.int)) (.int (ns.foldl min n)) = _
  have hd : ∀ (ds : List D) (d : D), dIndex (.list ds) d = if (SeqAt.shaped (.list ds) && SeqAt.shaped d) = true then (ds.findIdx? fun z => PyData.eqv z d).map fun j => PyData.int (j : Nat) else none := fun _ _ => rfl
  rw [hd]
  have hs : SeqAt.shaped (.int (ns.foldl min n)) = true := by simp [SeqAt.shaped, PyData.canLay0, PyData.depth]
  rw [shaped_ints, hs]
  have hm := min_mem n ns
  have : ∃ j, ((n :: ns).map PyData.int).findIdx? (fun z => PyData.eqv z (.int (ns.foldl min n))) = some j := by
    rw [← Option.isSome_iff_exists, List.findIdx?_isSome]
    rw [List.any_eq_true]
    exact ⟨.int (ns.foldl min n), List.mem_map_of_mem hm, by simp [PyData.eqv]⟩
  obtain ⟨j, hj⟩ := this
  exact ⟨j, by rw [hj]; rfl⟩
theorem filter_down {p : Nat → Bool} (hp : ∀ i j, i ≤ j → p j = true → p i = true) : ∀ N : Nat, (List.range N).filter p = List.range ((List.range N).filter p).length
  | 0 => rfl
  | N + 1 => by
    rw [List.range_succ, List.filter_append]
    by_cases h : p N = true
    · have e : (List.range N).filter p = List.range N := List.filter_eq_self.mpr fun i hi => hp i N (by have := List.mem_range.mp hi; omega) h
      have e2 : [N].filter p = [N] := by simp [h]
      rw [e, e2, List.length_append, List.length_range, List.length_singleton, ← List.range_succ]
    · have e2 : [N].filter p = [] := by simp [h]
      rw [e2, List.append_nil]
      exact filter_down hp N
theorem max_up (n : Nat) : ∀ (k : Nat) (a : Int), a ≤ k → ((List.range' k n).map fun (i : Nat) => ((i + 1 : Nat) : Int)).foldl max a = if n = 0 then a else ((k + n : Nat) : Int) := by
  induction n with
  | zero => intro k a _; rfl
  | succ n ih =>
    intro k a ha
    rw [List.range'_succ, List.map_cons, List.foldl_cons, Int.max_eq_right (by omega), ih (k + 1) _ (by omega)]
    by_cases h : n = 0
    · subst h; simp
    · rw [if_neg h, if_neg (by omega)]
      omega
def below (ws : List Int) (xs : List Nat) (t : Int) (i : Nat) : Bool := decide (wt ws (xs.take (i + 1)) ≤ t)
theorem range_eval {n : Nat} (hn : n < 100000) : C2 (fun x y => dRange [x, y]) (some (PyData.int 1)) (some (.int (n : Int))) = some ((List.range (n - 1)).map fun (i : Nat) => PyData.int ((i + 1 : Nat) : Int)) := by
  rw [c2_some, ← rangeD1]
  have h1 : small62 1 = true := by decide
  have h2 : small62 (n : Int) = true := by
    simp only [small62, decide_eq_true_eq]
    omega
  simp only [dRange, h1, h2, and_self, if_true]
theorem c3_some {β : Type} (f : D → D → D → Option β) (a b c : D) : C3 f (some a) (some b) (some c) = f a b c := rfl
theorem wsize_eval {ws : List Int} {xs : List Nat} {t : Int} (h : ∀ i ∈ xs, i < ws.length) (hl : xs.length < 100000) (h2 : 2 ≤ xs.length) (hp : ∀ i j, i ≤ j → below ws xs t j = true → below ws xs t i = true) (h0 : below ws xs t 0 = true) :
    C3 m_weighted_size (some (tupI ws)) (some (.tuple (ofN xs))) (some (.int t)) = some (.int (((List.range (xs.length - 1)).filter (below ws xs t)).length : Nat)) := by
  have hz : xs.length < sizeLine := by rw [sizeLine_eq]; omega
  rw [c3_some]
  unfold m_weighted_size
  rw [len_eval]
  rw [lcO_filter (p := below ws xs t) (g := fun (i : Nat) => PyData.int ((i + 1 : Nat) : Int)) (h := fun (i : Nat) => PyData.int ((i + 1 : Nat) : Int)) (List.range (xs.length - 1)) (range_eval hl) (by rw [List.length_range]; omega) (fun i hi => ?_) fun i _ _ => rfl]
  · rw [filter_down hp (xs.length - 1), List.length_range]
    have hc : 0 < ((List.range (xs.length - 1)).filter (below ws xs t)).length := List.length_pos_of_mem (List.mem_filter.mpr ⟨List.mem_range.mpr (by omega), h0⟩)
    generalize ((List.range (xs.length - 1)).filter (below ws xs t)).length = c at hc
    have e : (List.range c).map (fun (i : Nat) => PyData.int ((i + 1 : Nat) : Int)) = ((1 : Int) :: (List.range' 1 (c - 1)).map fun (i : Nat) => ((i + 1 : Nat) : Int)).map PyData.int := by
      obtain ⟨c, rfl⟩ : ∃ b, c = b + 1 := ⟨c - 1, by omega⟩
      rw [List.range_eq_range', List.range'_succ, List.map_cons, List.map_cons, List.map_map, Nat.add_sub_cancel]
      rfl
    rw [e, Option.map_some, best_list, max_up (c - 1) 1 1 (by omega)]
    by_cases hh : c - 1 = 0
    · rw [if_pos hh]
      have : c = 1 := by omega
      subst this; rfl
    · rw [if_neg hh]
      have : 1 + (c - 1) = c := by omega
      rw [this]
  · have hi := List.mem_range.mp hi
    rw [take_eval, weight_of_eval (fun j hj => h j (List.mem_of_mem_take hj)) (by rw [List.length_take]; omega)]
    rfl
theorem srt_ofN (zs : List Nat) : ∃ ys : List Nat, ys.Perm zs ∧ srtD (ofN zs) = ofN ys := by
  refine ⟨zs.mergeSort (fun (a b : Nat) => decide ((a : Int) ≤ (b : Int))), List.mergeSort_perm _ _, ?_⟩
  unfold srtD ofN
  refine (List.map_mergeSort (f := fun (i : Nat) => PyData.int i) (r := fun (a b : Nat) => decide ((a : Int) ≤ (b : Int))) (s := PySem.W.dataLe false id) (l := zs) fun a _ b _ => ?_).symm
  exact (congrFun (congrFun (PySem.W.dataLe_int (β := Nat) fun i => (i : Int)) a) b).symm
theorem srtOk_ofN (zs : List Nat) (h : zs.length < 100000) : srtOk (ofN zs) = true := by
  have hm : ∀ d ∈ ofN zs, ∃ i : Nat, d = .int i := fun d hd => by
    obtain ⟨i, _, rfl⟩ := List.mem_map.mp hd
    exact ⟨i, rfl⟩
  simp only [srtOk, Bool.and_eq_true, Bool.or_eq_true, List.all_eq_true, decide_eq_true_eq]
  refine ⟨⟨⟨fun d hd e he => ?_, .inr fun d hd => ?_⟩, ?_⟩, fun d hd => ?_⟩
  · obtain ⟨i, rfl⟩ := hm d hd
    obtain ⟨j, rfl⟩ := hm e he
    rfl
  · obtain ⟨i, rfl⟩ := hm d hd
    rfl
  · rw [ofN_len, sizeLine_eq]; omega
  · obtain ⟨i, rfl⟩ := hm d hd
    simp [PyData.depth]
theorem sort_eval (zs : List Nat) (h : zs.length < 100000) : ∃ ys : List Nat, ys.Perm zs ∧ dSort (.tuple (ofN zs)) = some (ofN ys) := by
  obtain ⟨ys, h1, h2⟩ := srt_ofN zs
  refine ⟨ys, h1, ?_⟩
  have e : dSort (.tuple (ofN zs)) = if srtOk (ofN zs) = true then some (srtD (ofN zs)) else none := rfl
  rw [e, if_pos (srtOk_ofN zs h), h2]
theorem log_small {n : Nat} (h : n < 10 ^ 60) : n.log2 < 200 := by
  by_cases z : n = 0
  · subst z; decide
  · exact (Nat.log2_lt z).mpr (Nat.lt_trans h (by decide))
theorem ints_show : ∀ (ns : List Int), (∀ n ∈ ns, n.natAbs < 10 ^ 60) → PyData.leavesShortAll 61 (ns.map PyData.int) = true ∧ PyData.weightAll (ns.map PyData.int) ≤ 201 * ns.length ∧ PyData.showableAll (ns.map PyData.int) = true ∧ PyData.hasDictAll (ns.map PyData.int) = false
  | [], _ => ⟨rfl, by simp [PyData.weightAll], rfl, rfl⟩
  | n :: ns, h => by
    obtain ⟨h1, h2, h3, h4⟩ := ints_show ns fun m hm => h m (List.mem_cons_of_mem _ hm)
    have hn := h n List.mem_cons_self
    have hl := log_small hn
    have ht : (PyData.shown (.int n)).length ≤ 61 := by
      show (Str.ofString (toString n)).length ≤ 61
      rw [ofString_length]
      exact int_text_length_le10 (k := 60) (by decide) hn
    refine ⟨?_, ?_, ?_, ?_⟩
    · simp only [List.map_cons, PyData.leavesShortAll, PyData.leavesShort, Bool.and_eq_true, decide_eq_true_eq]
      exact ⟨ht, h1⟩
    · have hw : PyData.weight (.int n) ≤ 200 := by
        simp only [PyData.weight]
        split <;> omega
      simp only [List.map_cons, PyData.weightAll, List.length_cons]
      omega
    · simp only [List.map_cons, PyData.showableAll, PyData.showable, Bool.and_eq_true, decide_eq_true_eq]
      exact ⟨by omega, h3⟩
    · simp [PyData.hasDictAll, PyData.hasDict, h4]
theorem repr_eval {ws : List Int} {xs : List Nat} (hw : ∀ n ∈ ws, n.natAbs < 10 ^ 60) (hx : ∀ i ∈ xs, i < 1000) (l1 : ws.length ≤ 100) (l2 : xs.length ≤ 100) : ∃ T : Str, C1 dRepr ((consO (some (tupI ws)) (consO (some (.tuple (ofN xs))) (some []))).map PyData.tuple) = some (.str T) := by
  have e : ofN xs = (xs.map fun (i : Nat) => (i : Int)).map PyData.int := by unfold ofN; rw [List.map_map]; rfl
  obtain ⟨a1, a2, a3, a4⟩ := ints_show ws hw
  obtain ⟨b1, b2', b3, b4⟩ := ints_show (xs.map fun (i : Nat) => (i : Int)) (fun n hn => by
    obtain ⟨i, hi, rfl⟩ := List.mem_map.mp hn
    have := hx i hi
    have h1000 : (1000 : Nat) < 10 ^ 60 := by decide
    show ((i : Nat) : Int).natAbs < 10 ^ 60
    rw [Int.natAbs_natCast]
    exact Nat.lt_trans this h1000)
  rw [List.length_map] at b2'
  have d1 : PyData.depthAll (ws.map PyData.int) = 0 := PySem.W.depth_ints ws
  have d2 : PyData.depthAll ((xs.map fun (i : Nat) => (i : Int)).map PyData.int) = 0 := PySem.W.depth_ints _
  rw [e]
  refine ⟨PyData.shown (.tuple [tupI ws, .tuple ((xs.map fun (i : Nat) => (i : Int)).map PyData.int)]), ?_⟩
  have hd : ∀ ds : List D, dRepr (.tuple ds) = if ((PyData.tuple ds).showable && !(PyData.tuple ds).hasDict && decide ((PyData.tuple ds).depth ≤ 60) && decide ((PyData.tuple ds).shown.length ≤ sizeLine)) = true then some (.str (PyData.tuple ds).shown) else none := fun _ => rfl
  show dRepr (.tuple [tupI ws, .tuple ((xs.map fun (i : Nat) => (i : Int)).map PyData.int)]) = _
  rw [hd]
  have s1 : (PyData.tuple [tupI ws, .tuple ((xs.map fun (i : Nat) => (i : Int)).map PyData.int)]).showable = true := by simp only [tupI, PyData.showable, PyData.showableAll, a3, b3, Bool.and_self]
  have s2 : (PyData.tuple [tupI ws, .tuple ((xs.map fun (i : Nat) => (i : Int)).map PyData.int)]).hasDict = false := by simp only [tupI, PyData.hasDict, PyData.hasDictAll, a4, b4, Bool.or_self]
  have s3 : (PyData.tuple [tupI ws, .tuple ((xs.map fun (i : Nat) => (i : Int)).map PyData.int)]).depth ≤ 60 := by simp only [tupI, PyData.depth, PyData.depthAll, d1, d2]; omega
  have s4 : (PyData.tuple [tupI ws, .tuple ((xs.map fun (i : Nat) => (i : Int)).map PyData.int)]).shown.length ≤ sizeLine := by
    have := PyData.shown_le 61 (by decide) (.tuple [tupI ws, .tuple ((xs.map fun (i : Nat) => (i : Int)).map PyData.int)]) (by simp only [tupI, PyData.leavesShort, PyData.leavesShortAll, a1, b1, Bool.and_self])
    simp only [tupI, PyData.weight, PyData.weightAll] at this a2 b2'
    rw [sizeLine_eq]
    unfold tupI
    omega
  rw [s1, s2]
  rw [if_pos (by simp only [Bool.not_false, Bool.and_self, Bool.true_and, Bool.and_eq_true, decide_eq_true_eq]; exact ⟨s3, s4⟩)]
theorem all2_ints {P : Int → Prop} : ∀ {ds es : List D}, All2 (fun _ e => ∃ w : Int, e = .int w ∧ P w) ds es → ∃ ws : List Int, es = ws.map PyData.int ∧ ws.length = ds.length ∧ ∀ w ∈ ws, P w
  | [], [], _ => ⟨[], rfl, rfl, by simp⟩
  | d :: ds, e :: es, h => by
    obtain ⟨⟨w, rfl, hw⟩, h2⟩ := h
    obtain ⟨ws, rfl, h3, h4⟩ := all2_ints h2
    refine ⟨w :: ws, rfl, by simp [h3], fun v hv => ?_⟩
    rcases List.mem_cons.mp hv with rfl | hv
    · exact hw
    · exact h4 v hv
  | [], _ :: _, h => h.elim
  | _ :: _, [], h => h.elim
theorem one_weight {most : Nat} (h0 : 0 < most) (h1 : most < 2 ^ 256) : Sp 1 (op2 dAdd (lift (some (PyData.int 1))) (drawM (consM (lift (some (.int (most : Nat)))) nilM) (G1 m__law_take))) (fun e => ∃ w : Int, e = .int w ∧ 1 ≤ w ∧ w ≤ most) :=
  (sp_op2 (sp_lift rfl) (sp_draw (sp_lift rfl) h0 h1) fun x y hx hy => by
    obtain ⟨v, rfl, hv⟩ := hy
    subst hx
    exact ⟨_, rfl, 1 + v, rfl, by omega, by omega⟩).mono (by omega) fun _ h => h
theorem range_items {n : Nat} (hn : n < 100000) : C1 (fun x => dRange [x]) (some (PyData.int (n : Int))) = some (rangeD 0 (n : Int)) := by
  have h : small62 (n : Int) = true := by
    simp only [small62, decide_eq_true_eq]
    omega
  rw [c1_some]
  simp only [dRange, h, if_true]
theorem sp_weights {n most : Nat} (hn : n < 100000) (h0 : 0 < most) (h1 : most < 2 ^ 256) : Sp n (appM (consM (lstM (lcM (lift (C1 (fun x => dRange [x]) (some (PyData.int (n : Int))))) fun place10 => turnM (lift (some true)) (op2 dAdd (lift (some (PyData.int 1))) (drawM (consM (lift (some (PyData.int (most : Int)))) nilM) (G1 m__law_take))))) nilM) (F1 dTup))
    (fun d => ∃ ws : List Int, d = tupI ws ∧ ws.length = n ∧ ∀ w ∈ ws, 1 ≤ w ∧ w ≤ most) := by
  have hr : (rangeD 0 (n : Int)).length = n := by rw [rangeD_len]; omega
  have s1 := sp_lc (k := 1) (Φ := fun _ e => ∃ w : Int, e = .int w ∧ 1 ≤ w ∧ w ≤ most) (sp_lift (range_items hn)) (by rw [hr, sizeLine_eq]; omega) (f := fun _ => op2 dAdd (lift (some (PyData.int 1))) (drawM (consM (lift (some (PyData.int (most : Int)))) nilM) (G1 m__law_take))) fun d _ => one_weight h0 h1
  refine (sp_app (sp_cons (sp_lst s1) sp_nil) (F := F1 dTup) (Φ := fun d => ∃ ws : List Int, d = tupI ws ∧ ws.length = n ∧ ∀ w ∈ ws, 1 ≤ w ∧ w ≤ most) fun ds hds => ?_).mono (by rw [hr]; omega) fun _ h => h
  obtain ⟨d, r, rfl, ⟨es, rfl, he⟩, rfl⟩ := hds
  obtain ⟨ws, rfl, h3, h4⟩ := all2_ints he
  exact ⟨_, rfl, ws, rfl, by rw [h3, hr], h4⟩
theorem sp_one_of {ds : List D} (h0 : 0 < ds.length) (h1 : ds.length < 100000) : Sp 1 (m__law_one_of (.list ds)) (fun d => d ∈ ds) := fun q m hm hq => by
  unfold m__law_one_of
  refine sp_op2 (f := dIx) (Φ := fun d => d ∈ ds) (sp_lift rfl) (sp_draw (k := 0) (n := ds.length) (sp_lift rfl) h0 (by omega)) (fun x y hx hy => ?_) q m (by omega) fun a m' hm' ha => hq a m' (by omega) ha
  subst hx
  obtain ⟨v, rfl, hv⟩ := hy
  refine ⟨ds[v], ?_, List.getElem_mem hv⟩
  rw [dIx_list (by omega) (by omega), Int.toNat_natCast]
  exact List.getElem?_eq_getElem hv
theorem sp_slice {k k2 k3 : Nat} {T : M D} {Tl Th : M (Option Int)} {Φ : D → Prop} {Ψ Χ : Option Int → Prop} {Φz : D → Prop} (hT : Sp k T Φ) (hl : Sp k2 Tl Ψ) (hh : Sp k3 Th Χ) (hf : ∀ d l u, Φ d → Ψ l → Χ u → ∃ z, dCut d l u = some z ∧ Φz z) : Sp (k + k2 + k3) (sliceM T Tl Th) Φz := fun q m hm hq =>
  hT _ m (by omega) fun d m1 h1 hd => hl _ m1 (by omega) fun l m2 h2 hl => hh _ m2 (by omega) fun u m3 h3 hu => by
    obtain ⟨z, hz, hz2⟩ := hf d l u hd hl hu
    exact ⟨z, hz, hq z m3 (by omega) hz2⟩
theorem sp_lot {ws : List Int} {xs : List Nat} (hx : ∀ i ∈ xs, i < ws.length) (hl : xs.length < 100000) : Sp 1 (appM (consM (lstM (appM (consM (sliceM (lift (some (PyData.tuple (ofN xs)))) (lift (some none)) (bindM (drawM (consM (lift (b2 dAdd (some (.int (xs.length : Nat))) (some (PyData.int 1)))) nilM) (G1 m__law_take)) asI)) nilM) (F1 dSort))) nilM) (F1 dTup))
    (fun d => ∃ ys : List Nat, d = .tuple (ofN ys) ∧ (∀ i ∈ ys, i < ws.length) ∧ ys.length ≤ xs.length) := by
  have s1 : Sp 1 (drawM (consM (lift (b2 dAdd (some (.int (xs.length : Nat))) (some (PyData.int 1)))) nilM) (G1 m__law_take)) (fun d => ∃ v : Nat, d = .int v ∧ v < xs.length + 1) :=
    sp_draw (k := 0) (sp_lift (by rw [add_ok]; rfl)) (by omega) (by omega)
  have s2 : Sp 1 (bindM (drawM (consM (lift (b2 dAdd (some (.int (xs.length : Nat))) (some (PyData.int 1)))) nilM) (G1 m__law_take)) asI) (fun o => ∃ v : Nat, o = some (v : Int)) :=
    sp_bind s1 fun d hd => by
      obtain ⟨v, rfl, _⟩ := hd
      exact ⟨_, rfl, v, rfl⟩
  have s3 := sp_slice (Φz := fun z => ∃ v : Nat, z = .tuple (ofN (xs.take v))) (sp_lift (a := PyData.tuple (ofN xs)) rfl) (sp_lift (a := (none : Option Int)) rfl) s2 (fun d l u hd hl hu => by
    obtain ⟨v, rfl⟩ := hu
    subst hd; subst hl
    refine ⟨_, ?_, v, rfl⟩
    show some (PyData.tuple (cutD _ none (some (v : Int)))) = _
    rw [cutD_lo]
    unfold ofN
    rw [List.map_take])
  have s4 := sp_app (sp_cons s3 sp_nil) (F := F1 dSort) (Φ := fun ds => ∃ ys : List Nat, ds = ofN ys ∧ (∀ i ∈ ys, i < ws.length) ∧ ys.length ≤ xs.length) fun ds hds => by
    obtain ⟨d, r, rfl, ⟨v, rfl⟩, rfl⟩ := hds
    obtain ⟨ys, h1, h2⟩ := sort_eval (xs.take v) (by rw [List.length_take]; omega)
    exact ⟨_, h2, ys, rfl, fun i hi => hx i (List.mem_of_mem_take (h1.mem_iff.mp hi)), by rw [h1.length_eq, List.length_take]; omega⟩
  refine (sp_app (sp_cons (sp_lst s4) sp_nil) (F := F1 dTup) (Φ := fun d => ∃ ys : List Nat, d = .tuple (ofN ys) ∧ (∀ i ∈ ys, i < ws.length) ∧ ys.length ≤ xs.length) fun ds hds => ?_).mono (by omega) fun _ h => h
  obtain ⟨d, r, rfl, ⟨es, rfl, ys, rfl, h1, h2⟩, rfl⟩ := hds
  exact ⟨_, rfl, ys, rfl, h1, h2⟩
theorem wt_nil (ws : List Int) : wt ws [] = 0 := rfl
theorem wt_one (ws : List Int) (i : Nat) : wt ws [i] = ws.getD i 0 := by simp [wt]
theorem wt_next (ws : List Int) (xs : List Nat) (i : Nat) (h : i < xs.length) : wt ws (xs.take (i + 1)) = wt ws (xs.take i) + ws.getD xs[i] 0 := by
  have e : xs.take (i + 1) = xs.take i ++ [xs[i]] := by rw [List.take_succ_eq_append_getElem h]
  rw [e, wt_app, wt_one]
theorem wt_mono {ws : List Int} {xs : List Nat} (hx : ∀ i ∈ xs, i < ws.length) (hw : ∀ w ∈ ws, 1 ≤ w) {i j : Nat} (h : i ≤ j) : wt ws (xs.take i) ≤ wt ws (xs.take j) := by
  induction j with
  | zero => 
    have : i = 0 := by omega
    subst this; exact Int.le_refl _
  | succ j ih =>
    by_cases e : i = j + 1
    · subst e; exact Int.le_refl _
    · have ih := ih (by omega)
      by_cases hj : j < xs.length
      · have := hx xs[j] (List.getElem_mem hj)
        have h1 : 1 ≤ ws.getD xs[j] 0 := by
          rw [List.getD_eq_getElem?_getD, List.getElem?_eq_getElem this, Option.getD_some]
          exact hw _ (List.getElem_mem this)
        rw [wt_next ws xs j hj]
        omega
      · have e1 : xs.take (j + 1) = xs := List.take_of_length_le (by omega)
        have e2 : xs.take j = xs := List.take_of_length_le (by omega)
        rw [e1]
        rw [e2] at ih
        exact ih
theorem foldl_max_le (n : Int) (ns : List Int) : ∀ m ∈ n :: ns, m ≤ ns.foldl max n := by
  induction ns generalizing n with
  | nil => simp
  | cons a ns ih =>
    intro m hm
    have h0 := ih (max n a) (max n a) List.mem_cons_self
    rcases List.mem_cons.mp hm with rfl | hm
    · exact Int.le_trans (Int.le_max_left _ _) h0
    · rcases List.mem_cons.mp hm with rfl | hm
      · exact Int.le_trans (Int.le_max_right _ _) h0
      · exact ih _ m (List.mem_cons_of_mem _ hm)
theorem best_tup (ws : List Int) (h : 0 < ws.length) : ∃ M : Int, C1 (dBest max) (some (tupI ws)) = some (.int M) ∧ ∀ w ∈ ws, w ≤ M := by
  obtain ⟨n, ns, rfl⟩ : ∃ n ns, ws = n :: ns := by
    cases ws with
    | nil => simp at h
    | cons n ns => exact ⟨n, ns, rfl⟩
  refine ⟨ns.foldl max n, ?_, foldl_max_le n ns⟩
  rw [c1_some]
  unfold dBest tupI
  rw [show dItems (.tuple ((n :: ns).map PyData.int)) = some ((n :: ns).map PyData.int) from rfl, Option.bind_some, intsOf_map]
def firstsD (ws : List Int) (xs : List Nat) : List D := (List.range (xs.length - 1)).map fun i => PyData.int (wt ws (xs.take (i + 1)))
theorem firsts_eval {ws : List Int} {xs : List Nat} (hx : ∀ i ∈ xs, i < ws.length) (hl : xs.length < 100000) :
    lcO (C2 (fun x y => dRange [x, y]) (some (PyData.int 1)) (some (.int (xs.length : Nat)))) (fun size21 => turnO (some true) (C1 dSum ((lcO ((slO (some (.tuple (ofN xs))) (some none) ((some size21).bind asI)).bind dItems) fun place22 => turnO (some true) (b2 dIx (some (tupI ws)) (some place22))).map PyData.list))) = some (firstsD ws xs) := by
  refine lcO_map (g := fun (i : Nat) => PyData.int ((i + 1 : Nat) : Int)) (h := fun i => PyData.int (wt ws (xs.take (i + 1)))) (List.range (xs.length - 1)) (range_eval hl) (by rw [List.length_range, sizeLine_eq]; omega) fun i hi => ?_
  exact weight_eval (by rw [take_eval]; rfl) (fun j hj => hx j (List.mem_of_mem_take hj)) (by rw [List.length_take, sizeLine_eq]; omega)
theorem pairs_eval {ws : List Int} {xs : List Nat} {W : Int} (hW : W = wt ws xs) (hl : xs.length < 100000) :
    lcO ((some (PyData.list (firstsD ws xs))).bind dItems) (fun first25 => turnO (some true) ((consO (some first25) (consO (b2 dSub (some (.int W)) (some first25)) (some []))).map PyData.tuple)) = some (cuts ws xs) := by
  refine lcO_map (g := fun i => PyData.int (wt ws (xs.take (i + 1)))) (h := fun i => PyData.tuple [.int (wt ws (xs.take (i + 1))), .int (wt ws (xs.drop (i + 1)))]) (List.range (xs.length - 1)) rfl (by rw [List.length_range, sizeLine_eq]; omega) fun i hi => ?_
  rw [sub_ok, wt_split, hW]
  rfl
def greaterI (ws : List Int) (xs : List Nat) : List Int := (List.range (xs.length - 1)).map fun i => max (wt ws (xs.take (i + 1))) (wt ws (xs.drop (i + 1)))
theorem greater_eval {ws : List Int} {xs : List Nat} {o : Option (List D)} (ho : o = some (cuts ws xs)) (hl : xs.length < 100000) :
    lcO o (fun pair27 => turnO (some true) (C1 (dBest max) (some pair27))) = some ((greaterI ws xs).map PyData.int) := by
  rw [lcO_map (g := fun i => PyData.tuple [.int (wt ws (xs.take (i + 1))), .int (wt ws (xs.drop (i + 1)))]) (h := fun i => PyData.int (max (wt ws (xs.take (i + 1))) (wt ws (xs.drop (i + 1))))) (List.range (xs.length - 1)) ho (by rw [List.length_range, sizeLine_eq]; omega) fun i hi => best_pair _ _ _]
  unfold greaterI
  rw [List.map_map]
  rfl
theorem even_eval {ws : List Int} {xs : List Nat} (hx : ∀ i ∈ xs, i < ws.length) (hl : xs.length < 100000) (h2 : 2 ≤ xs.length) :
    ∃ j : Int, b2 dAdd (idxO (some (PyData.list ((greaterI ws xs).map PyData.int))) (C1 (dBest min) (some (PyData.list ((greaterI ws xs).map PyData.int))))) (some (PyData.int 1)) = some (.int j) ∧ C2 m_even_size (some (tupI ws)) (some (.tuple (ofN xs))) = some (.int j) := by
  have hg : ∃ n ns, greaterI ws xs = n :: ns := by
    have : 0 < (greaterI ws xs).length := by simp [greaterI]; omega
    cases e : greaterI ws xs with
    | nil => rw [e] at this; simp at this
    | cons n ns => exact ⟨n, ns, rfl⟩
  obtain ⟨n, ns, hg⟩ := hg
  obtain ⟨j, hj⟩ := idx_min n ns
  have e1 : b2 dAdd (idxO (some (PyData.list ((greaterI ws xs).map PyData.int))) (C1 (dBest min) (some (PyData.list ((greaterI ws xs).map PyData.int))))) (some (PyData.int 1)) = some (.int ((j : Int) + 1)) := by
    rw [hg, hj, add_ok]
  refine ⟨_, e1, ?_⟩
  rw [c2_some]
  unfold m_even_size
  rw [greater_eval (cuts_eval hx hl) hl, Option.map_some, Option.bind_some]
  exact e1
theorem flat_cuts (ws : List Int) (xs : List Nat) (hl : xs.length < 100000) : flat 39 (.list (cuts ws xs)) = true := by
  show (decide ((cuts ws xs).length < sizeLine) && (cuts ws xs).all (flat 38)) = true
  rw [Bool.and_eq_true]
  refine ⟨decide_eq_true ?_, List.all_eq_true.mpr fun d hd => ?_⟩
  · unfold cuts
    rw [List.length_map, List.length_range, sizeLine_eq]
    omega
  · obtain ⟨i, _, rfl⟩ := List.mem_map.mp hd
    simp [flat, sizeLine_eq]
theorem chain_le (a b c : Int) : (chainO dLe dLe (some (PyData.int a)) (some (.int b)) (some (.int c))).bind asB = some (decide (a ≤ b) && decide (b ≤ c)) := by
  by_cases h : a ≤ b
  · simp [chainO, dLe, dCmp, asB, h]
  · simp [chainO, dLe, dCmp, asB, h]
theorem chain_lt (a b c : Int) : (chainO dLt dLe (some (PyData.int a)) (some (.int b)) (some (.int c))).bind asB = some (decide (a < b) && decide (b ≤ c)) := by
  by_cases h : a < b
  · simp [chainO, dLe, dLt, dCmp, asB, h]
  · simp [chainO, dLe, dLt, dCmp, asB, h]
theorem le_ints (a b : Int) : (b2 dLe (some (PyData.int a)) (some (.int b))).bind asB = some (decide (a ≤ b)) := rfl
theorem same_intR (i : Int) : C2 r__law_same (some (.int i)) (some (.int i)) = some (.bool true) := by
  rw [c2_some]
  unfold r__law_same
  rw [same_int]
  simp
def tbodyI (q : D → Nat → Prop) (order11 weights13 : D) (firsts20 : D) (target38 : D) (kk35 : Unit → Nat → Prop) : Nat → Prop := ((lift (C3 m_weighted_size (some weights13) (some order11) (some target38))) fun size39 => (ifK (lift (((C2 r__law_same (some size39) (C1 dLen ((lcO ((some firsts20).bind dItems) fun first40 => turnO ((b2 dLe (some first40) (some target38)).bind asB) (some first40)).map PyData.list))).bind asT).map (!·))) ((lift (some (PyData.bool false))) q) (ifK (lift (((chainO dLt dLe (b2 dSub (some target38) (C1 (dBest max) (some weights13))) (b2 dIx (some firsts20) (b2 dSub (some size39) (some (PyData.int 1)))) (some target38)).bind asB).map (!·))) ((lift (some (PyData.bool false))) q) (kk35 ()))))
@[irreducible] def tbody (q : D → Nat → Prop) (order11 weights13 : D) (firsts20 : D) (target38 : D) (kk35 : Unit → Nat → Prop) : Nat → Prop := tbodyI q order11 weights13 firsts20 target38 kk35
theorem tbody_eq : tbodyI = tbody := by
  funext q a b c d k
  unfold tbody
  rfl
theorem below_down {ws : List Int} {xs : List Nat} {t : Int} (hx : ∀ i ∈ xs, i < ws.length) (hw : ∀ w ∈ ws, 1 ≤ w) (i j : Nat) (h : i ≤ j) (hj : below ws xs t j = true) : below ws xs t i = true := by
  unfold below at *
  have := wt_mono hx hw (i := i + 1) (j := j + 1) (by omega)
  simp only [decide_eq_true_eq] at *
  omega
def cnt (ws : List Int) (xs : List Nat) (t : Int) : Nat := ((List.range (xs.length - 1)).filter (below ws xs t)).length
theorem cnt_below {ws : List Int} {xs : List Nat} {t : Int} (hx : ∀ i ∈ xs, i < ws.length) (hw : ∀ w ∈ ws, 1 ≤ w) (i : Nat) (hi : i < xs.length - 1) : below ws xs t i = decide (i < cnt ws xs t) := by
  have e := filter_down (p := below ws xs t) (fun i j h hj => below_down hx hw i j h hj) (xs.length - 1)
  by_cases h : below ws xs t i = true
  · have : i ∈ (List.range (xs.length - 1)).filter (below ws xs t) := List.mem_filter.mpr ⟨List.mem_range.mpr hi, h⟩
    rw [e] at this
    rw [h]
    exact (decide_eq_true (List.mem_range.mp this)).symm
  · have : ¬ i ∈ List.range (cnt ws xs t) := fun hh => by
      unfold cnt at hh
      rw [← e] at hh
      exact h (List.mem_filter.mp hh).2
    rw [List.mem_range] at this
    rw [Bool.not_eq_true] at h
    rw [h]
    exact (decide_eq_false this).symm
theorem cnt_le (ws : List Int) (xs : List Nat) (t : Int) : cnt ws xs t ≤ xs.length - 1 := by
  have := List.length_filter_le (below ws xs t) (List.range (xs.length - 1))
  rw [List.length_range] at this
  exact this
theorem tbody_ok {q : D → Nat → Prop} {ws : List Int} {xs : List Nat} {t : Int} {kk : Unit → Nat → Prop} {m : Nat} (hp : xs.Perm (List.range ws.length)) (h2 : 2 ≤ ws.length) (hl : ws.length < 100000) (hw : ∀ w ∈ ws, 1 ≤ w) (hlo : wt ws (xs.take 1) ≤ t) (hhi : t < wt ws (xs.take (xs.length - 1))) (hk : kk () m) :
    tbody q (.tuple (ofN xs)) (tupI ws) (.list (firstsD ws xs)) (.int t) kk m := by
  have hn : xs.length = ws.length := by rw [hp.length_eq, List.length_range]
  have hx : ∀ i ∈ xs, i < ws.length := fun i hi => List.mem_range.mp (hp.mem_iff.mp hi)
  have b0 : below ws xs t 0 = true := decide_eq_true hlo
  have c0 : 0 < cnt ws xs t := by
    have := cnt_below (t := t) hx hw 0 (by omega)
    rw [b0] at this
    exact of_decide_eq_true this.symm
  have c1 := cnt_le ws xs t
  have c2 : cnt ws xs t < xs.length - 1 := by
    have := cnt_below (t := t) hx hw (xs.length - 2) (by omega)
    have e : xs.length - 2 + 1 = xs.length - 1 := by omega
    have b : below ws xs t (xs.length - 2) = false := by
      unfold below
      rw [e]
      exact decide_eq_false (by omega)
    rw [b] at this
    have := of_decide_eq_false this.symm
    omega
  have hsz := wsize_eval (t := t) hx (by omega) (by omega) (fun i j h hj => below_down hx hw i j h hj) b0
  have hlen : C1 dLen ((lcO ((some (PyData.list (firstsD ws xs))).bind dItems) fun first40 => turnO ((b2 dLe (some first40) (some (.int t))).bind asB) (some first40)).map PyData.list) = some (.int (cnt ws xs t : Nat)) := by
    have e0 : lcO ((some (PyData.list (firstsD ws xs))).bind dItems) (fun first40 => turnO ((b2 dLe (some first40) (some (.int t))).bind asB) (some first40)) = some (((List.range (xs.length - 1)).filter (below ws xs t)).map fun i => PyData.int (wt ws (xs.take (i + 1)))) :=
      lcO_filter (p := below ws xs t) (g := fun i => PyData.int (wt ws (xs.take (i + 1)))) (h := fun i => PyData.int (wt ws (xs.take (i + 1)))) (List.range (xs.length - 1)) rfl (by rw [List.length_range, sizeLine_eq]; omega) (fun i hi => le_ints _ _) fun i _ _ => rfl
    rw [e0]
    rw [Option.map_some, c1_some]
    show some (PyData.int (((List.map _ _).length : Nat) : Int)) = _
    rw [List.length_map]
    rfl
  obtain ⟨M, hM, hM2⟩ := best_tup ws (by omega)
  have hf : b2 dIx (some (PyData.list (firstsD ws xs))) (b2 dSub (some (.int (cnt ws xs t : Nat))) (some (PyData.int 1))) = some (.int (wt ws (xs.take (cnt ws xs t)))) := by
    have e : ((cnt ws xs t : Nat) : Int) - 1 = ((cnt ws xs t - 1 : Nat) : Int) := by omega
    have el : (firstsD ws xs).length = xs.length - 1 := by simp [firstsD]
    rw [sub_ok, b2_some, e, dIx_list (by omega) (by rw [el]; omega), Int.toNat_natCast]
    unfold firstsD
    rw [List.getElem?_map, List.getElem?_range (by omega), Option.map_some]
    have e2 : cnt ws xs t - 1 + 1 = cnt ws xs t := by omega
    rw [e2]
  have k1 : wt ws (xs.take (cnt ws xs t)) ≤ t := by
    have := cnt_below (t := t) hx hw (cnt ws xs t - 1) (by omega)
    rw [decide_eq_true (show cnt ws xs t - 1 < cnt ws xs t by omega)] at this
    unfold below at this
    have e2 : cnt ws xs t - 1 + 1 = cnt ws xs t := by omega
    rw [e2] at this
    exact of_decide_eq_true this
  have k2 : t - M < wt ws (xs.take (cnt ws xs t)) := by
    have := cnt_below (t := t) hx hw (cnt ws xs t) (by omega)
    rw [decide_eq_false (show ¬ cnt ws xs t < cnt ws xs t by omega)] at this
    unfold below at this
    have this := of_decide_eq_false this
    have hc : cnt ws xs t < xs.length := by omega
    rw [wt_next ws xs _ hc] at this
    have hi := hx xs[cnt ws xs t] (List.getElem_mem hc)
    have : ws.getD xs[cnt ws xs t] 0 ≤ M := by
      rw [List.getD_eq_getElem?_getD, List.getElem?_eq_getElem hi, Option.getD_some]
      exact hM2 _ (List.getElem_mem hi)
    omega
  rw [← tbody_eq]
  unfold tbodyI
  refine ⟨_, hsz, ?_⟩
  refine ⟨false, ?_, ?_⟩
  · rw [hlen]
    show ((C2 r__law_same (some (.int ((cnt ws xs t : Nat) : Int))) (some (.int ((cnt ws xs t : Nat) : Int)))).bind asT).map (!·) = _
    rw [same_intR]
    rfl
  refine ⟨false, ?_, hk⟩
  rw [hM, sub_ok]
  show ((chainO dLt dLe _ (b2 dIx (some (PyData.list (firstsD ws xs))) (b2 dSub (some (.int (cnt ws xs t : Nat))) (some (PyData.int 1)))) _).bind asB).map _ = _
  rw [hf, chain_lt, decide_eq_true k1, decide_eq_true k2]
  rfl
def restI (q : D → Nat → Prop) (n6 order11 weights13 : D) (kk2 : Unit → Nat → Prop) : Nat → Prop := ((consDM (appM (consM (lstM (appM (consM (sliceM (lift (some order11)) (lift (some none)) (bindM (drawM (consM (lift (b2 dAdd (some n6) (some (PyData.int 1)))) nilM) (G1 m__law_take)) asI)) nilM) (F1 dSort))) nilM) (F1 dTup)) (consDM (lift (C1 dRepr ((consO (some weights13) (consO (some order11) (some []))).map PyData.tuple))) nilCM)) (cel2M (fun c16 c18 => (onDM (fun lot15 => (onDM (fun text17 => (ifK (lift (((C2 r__law_same (C2 m_weight_of (some weights13) (some lot15)) (C1 dSum ((lcO ((some lot15).bind dItems) fun place19 => turnO (some true) (b2 dIx (some weights13) (some place19))).map PyData.list))).bind asT).map (!·))) ((lift (some (PyData.bool false))) q) ((lstM (lift (lcO (C2 (fun x y => dRange [x, y]) (some (PyData.int 1)) (some n6)) fun size21 => turnO (some true) (C1 dSum ((lcO ((slO (some order11) (some none) ((some size21).bind asI)).bind dItems) fun place22 => turnO (some true) (b2 dIx (some weights13) (some place22))).map PyData.list))))) fun firsts20 => ((lift (C1 dSum (some weights13))) fun whole23 => ((lstM (lift (lcO ((some firsts20).bind dItems) fun first25 => turnO (some true) ((consO (some first25) (consO (b2 dSub (some whole23) (some first25)) (some []))).map PyData.tuple)))) fun pairs24 => ((lift (C2 m_every_cut_weight (some weights13) (some order11))) fun _ => (ifK (lift (((C2 r__law_same ((C2 m_every_cut_weight (some weights13) (some order11)).map PyData.list) (some pairs24)).bind asT).map (!·))) ((lift (some (PyData.bool false))) q) ((lstM (lift (lcO ((some pairs24).bind dItems) fun pair27 => turnO (some true) (C1 (dBest max) (some pair27))))) fun greater26 => (ifK (lift (((C2 r__law_same (C2 m_even_size (some weights13) (some order11)) (b2 dAdd (idxO (some greater26) (C1 (dBest min) (some greater26))) (some (PyData.int 1)))).bind asT).map (!·))) ((lift (some (PyData.bool false))) q) ((consDM (lift (b2 dIx (some weights13) (b2 dIx (some order11) (some (PyData.int 0))))) (consDM (lift (b2 dSub (b2 dSub (some whole23) (b2 dIx (some weights13) (b2 dIx (some order11) (b2 dSub (some n6) (some (PyData.int 1)))))) (some (PyData.int 1)))) nilCM)) (cel2M (fun c29 c31 => (onDM (fun low28 => (onDM (fun high30 => ((lstM (consM (lift (some low28)) (consM (lift (some high30)) (consM (op2 dAdd (lift (some low28)) (drawM (consM (lift (C2 dMax2 (some (PyData.int 1)) (b2 dAdd (b2 dSub (some high30) (some low28)) (some (PyData.int 1))))) nilM) (G1 m__law_take))) (consM (op2 dIx (lift (some firsts20)) (drawM (consM (lift (b2 dSub (some n6) (some (PyData.int 1)))) nilM) (G1 m__law_take))) nilM))))) fun some32 => ((lift (lcO ((some some32).bind dItems) fun one33 => turnO ((chainO dLe dLe (some low28) (some one33) (some high30)).bind asB) (some one33))) fun ds => forK (S := Unit) (fun s34 target38 kk35 => ((lift (C3 m_weighted_size (some weights13) (some order11) (some target38))) fun size39 => (ifK (lift (((C2 r__law_same (some size39) (C1 dLen ((lcO ((some firsts20).bind dItems) fun first40 => turnO ((b2 dLe (some first40) (some target38)).bind asB) (some first40)).map PyData.list))).bind asT).map (!·))) ((lift (some (PyData.bool false))) q) (ifK (lift (((chainO dLt dLe (b2 dSub (some target38) (C1 (dBest max) (some weights13))) (b2 dIx (some firsts20) (b2 dSub (some size39) (some (PyData.int 1)))) (some target38)).bind asB).map (!·))) ((lift (some (PyData.bool false))) q) (kk35 ()))))) ds () fun s37 => (ifK (lift ((b2 dNe (C1 dRepr ((consO (some weights13) (consO (some order11) (some []))).map PyData.tuple)) (some text17)).bind asB)) ((lift (some (PyData.bool false))) q) (kk2 ()))))) c31)) c29))))))))))))) c18)) c16))))
@[irreducible] def restK (q : D → Nat → Prop) (n6 order11 weights13 : D) (kk2 : Unit → Nat → Prop) : Nat → Prop := restI q n6 order11 weights13 kk2
theorem rest_eq : restI = restK := by
  funext q a b c k
  unfold restK
  rfl
theorem ws_at {ws : List Int} {xs : List Nat} {i : Nat} (hx : ∀ i ∈ xs, i < ws.length) (hi : i < xs.length) : b2 dIx (some (tupI ws)) (b2 dIx (some (.tuple (ofN xs))) (some (.int (i : Nat)))) = some (.int (ws.getD xs[i] 0)) := by
  have e : b2 dIx (some (.tuple (ofN xs))) (some (.int (i : Nat))) = some (.int (xs[i] : Nat)) := by
    rw [b2_some, dIx_tup (by omega) (by rw [ofN_len]; omega), Int.toNat_natCast]
    unfold ofN
    rw [List.getElem?_map, List.getElem?_eq_getElem hi]
    rfl
  rw [e]
  exact ix_w (hx _ (List.getElem_mem hi))
theorem tloop {q : D → Nat → Prop} {ws : List Int} {xs : List Nat} {k : Unit → Nat → Prop} {m : Nat} (hp : xs.Perm (List.range ws.length)) (h2 : 2 ≤ ws.length) (hl : ws.length < 100000) (hw : ∀ w ∈ ws, 1 ≤ w) (hk : k () m) : ∀ ts : List Int, (∀ t ∈ ts, wt ws (xs.take 1) ≤ t ∧ t < wt ws (xs.take (xs.length - 1))) →
    forK (S := Unit) (fun s34 target38 kk35 => tbody q (.tuple (ofN xs)) (tupI ws) (.list (firstsD ws xs)) target38 kk35) (ts.map PyData.int) () k m
  | [], _ => hk
  | t :: ts, h => tbody_ok hp h2 hl hw (h t List.mem_cons_self).1 (h t List.mem_cons_self).2 (tloop hp h2 hl hw hk ts fun t ht => h t (List.mem_cons_of_mem _ ht))
theorem eq_text (T : Str) : (b2 dNe (some (PyData.str T)) (some (.str T))).bind asB = some false := by
  rw [b2_some]
  unfold dNe
  rw [if_pos (by simp [eqOk, PyData.plain, PyData.depth])]
  simp [PyData.eqv, asB]
theorem not_true {o : Option D} (h : o = some (.bool true)) : (o.bind asT).map (!·) = some false := by rw [h]; rfl
theorem not_false {o : Option D} (h : o = some (.bool true)) : (o.bind asT).map (!·) = some false := by rw [h]; rfl
theorem max2_ok (a b : Int) : C2 dMax2 (some (.int a)) (some (.int b)) = some (.int (if b > a then b else a)) := rfl
theorem sp_between {lo hi : Int} (h : hi - lo < 2 ^ 255) : Sp 1 (op2 dAdd (lift (some (PyData.int lo))) (drawM (consM (lift (C2 dMax2 (some (PyData.int 1)) (b2 dAdd (b2 dSub (some (.int hi)) (some (.int lo))) (some (PyData.int 1))))) nilM) (G1 m__law_take))) (fun d => ∃ v : Int, d = .int v) := by
  have e : C2 dMax2 (some (PyData.int 1)) (b2 dAdd (b2 dSub (some (.int hi)) (some (.int lo))) (some (PyData.int 1))) = some (.int (((max 1 (hi - lo + 1)).toNat : Nat) : Int)) := by
    rw [sub_ok, add_ok, max2_ok]
    congr 2
    split <;> omega
  refine (sp_op2 (sp_lift rfl) (sp_draw (k := 0) (sp_lift e) (by omega) (by omega)) fun x y hx hy => ?_).mono (by omega) fun _ h => h
  obtain ⟨v, rfl, hv⟩ := hy
  subst hx
  exact ⟨_, rfl, _, rfl⟩
theorem sp_firsts {ws : List Int} {xs : List Nat} (h2 : 2 ≤ xs.length) (hl : xs.length < 100000) : Sp 1 (op2 dIx (lift (some (PyData.list (firstsD ws xs)))) (drawM (consM (lift (b2 dSub (some (.int (xs.length : Nat))) (some (PyData.int 1)))) nilM) (G1 m__law_take))) (fun d => ∃ v : Int, d = .int v) := by
  have e : b2 dSub (some (.int (xs.length : Nat))) (some (PyData.int 1)) = some (.int ((xs.length - 1 : Nat) : Int)) := by
    rw [sub_ok]
    congr 2
    omega
  refine (sp_op2 (sp_lift rfl) (sp_draw (k := 0) (sp_lift e) (by omega) (by omega)) fun x y hx hy => ?_).mono (by omega) fun _ h => h
  obtain ⟨v, rfl, hv⟩ := hy
  subst hx
  have el : (firstsD ws xs).length = xs.length - 1 := by simp [firstsD]
  refine ⟨_, ?_, wt ws (xs.take (v + 1)), rfl⟩
  rw [dIx_list (by omega) (by rw [el]; omega), Int.toNat_natCast]
  unfold firstsD
  rw [List.getElem?_map, List.getElem?_range (by omega), Option.map_some]
theorem sum_le (ns : List Int) (B : Int) (h : ∀ n ∈ ns, n ≤ B) : ns.sum ≤ ns.length * B := by
  induction ns with
  | nil => simp
  | cons n ns ih =>
    have h1 := h n List.mem_cons_self
    have h2 := ih fun m hm => h m (List.mem_cons_of_mem _ hm)
    rw [List.sum_cons, List.length_cons]
    have : ((ns.length + 1 : Nat) : Int) * B = ns.length * B + B := by rw [Int.natCast_add, Int.add_mul]; omega
    omega
theorem some_eval {lo hi : Int} {d : D} {ts : List Int} (hd : d = .list (ts.map PyData.int)) (hl : ts.length < 100) :
    lcO ((some d).bind dItems) (fun one33 => turnO ((chainO dLe dLe (some (PyData.int lo)) (some one33) (some (.int hi))).bind asB) (some one33)) = some ((ts.filter fun t => decide (lo ≤ t) && decide (t ≤ hi)).map PyData.int) := by
  subst hd
  exact lcO_filter (g := PyData.int) (h := PyData.int) ts rfl (by rw [sizeLine_eq]; omega) (fun t _ => chain_le _ _ _) fun t _ _ => rfl
theorem Sp.useD {k : Nat} {T : M D} {Φ : D → Prop} {Ts : M (List Cell)} {q : List Cell → Nat → Prop} {m : Nat} (h : Sp k T Φ) (hm : m + k ≤ 1000000000) (hq : ∀ a m', m' ≤ m + k → Φ a → Ts (fun cs m2 => q (.dat a :: cs) m2) m') : consDM T Ts q m := h _ m hm hq
theorem rest_ok {q : D → Nat → Prop} {ws : List Int} {xs : List Nat} {kk : Unit → Nat → Prop} {m : Nat} (hp : xs.Perm (List.range ws.length)) (h2 : 2 ≤ ws.length) (h12 : ws.length ≤ 12) (hw : ∀ w ∈ ws, 1 ≤ w ∧ w ≤ 10 ^ 40) (hm : m + 3 ≤ 1000000000) (hk : ∀ m', m' ≤ m + 3 → kk () m') :
    restK q (.int (ws.length : Nat)) (.tuple (ofN xs)) (tupI ws) kk m := by
  have hn : xs.length = ws.length := by rw [hp.length_eq, List.length_range]
  have hx : ∀ i ∈ xs, i < ws.length := fun i hi => List.mem_range.mp (hp.mem_iff.mp hi)
  have hw1 : ∀ w ∈ ws, 1 ≤ w := fun w h => (hw w h).1
  have hl : xs.length < 100000 := by omega
  obtain ⟨T, hT⟩ := repr_eval (ws := ws) (xs := xs) (fun n h => by
    have h1 := hw n h
    have : (10 : Nat) ^ 40 < 10 ^ 60 := by decide
    have h3 : n.natAbs ≤ 10 ^ 40 := by omega
    omega) (fun i h => by have := hx i h; omega) (by omega) (by omega)
  have hW : ws.sum = wt ws xs := by rw [wt_perm hp, wt_range]
  rw [← rest_eq]
  unfold restI
  have hc := cuts_eval (ws := ws) hx hl
  obtain ⟨j, hj1, hj2⟩ := even_eval hx hl (by omega)
  have hlow : b2 dIx (some (tupI ws)) (b2 dIx (some (.tuple (ofN xs))) (some (PyData.int 0))) = some (.int (wt ws (xs.take 1))) := by
    have := ws_at (i := 0) hx (by omega)
    rw [wt_next ws xs 0 (by omega), List.take_zero, wt_nil, Int.zero_add]
    exact this
  have hhigh : b2 dSub (b2 dSub (some (.int (wt ws xs))) (b2 dIx (some (tupI ws)) (b2 dIx (some (.tuple (ofN xs))) (b2 dSub (some (.int (ws.length : Nat))) (some (PyData.int 1)))))) (some (PyData.int 1)) = some (.int (wt ws (xs.take (xs.length - 1)) - 1)) := by
    have := ws_at (i := xs.length - 1) hx (by omega)
    have e : ((ws.length : Nat) : Int) - 1 = ((xs.length - 1 : Nat) : Int) := by omega
    have e2 := wt_next ws xs (xs.length - 1) (by omega)
    have e3 : xs.length - 1 + 1 = xs.length := by omega
    rw [e3, List.take_of_length_le (Nat.le_refl _)] at e2
    rw [sub_ok, e, this, sub_ok, sub_ok, e2]
    congr 2
    omega
  have hall : wt ws xs ≤ 12 * 10 ^ 40 := by
    rw [← hW]
    have h1 := sum_le ws (10 ^ 40) fun w h => (hw w h).2
    have h3 : (ws.length : Int) ≤ 12 := by omega
    exact Int.le_trans h1 (Int.mul_le_mul_of_nonneg_right h3 (by decide))
  have hlo : 0 ≤ wt ws (xs.take 1) := by
    have := wt_mono hx hw1 (i := 0) (j := 1) (by omega)
    exact this
  have hhi : wt ws (xs.take (xs.length - 1)) ≤ wt ws xs := by
    have := wt_mono hx hw1 (i := xs.length - 1) (j := xs.length) (by omega)
    rw [List.take_of_length_le (i := xs.length) (Nat.le_refl _)] at this
    exact this
  rw [← hn]
  refine (sp_lot hx hl).useD (by omega) fun d m1 hm1 hd => ?_
  obtain ⟨ys, rfl, hy1, hy2⟩ := hd
  have hy3 : ys.length < sizeLine := by rw [sizeLine_eq]; omega
  refine ⟨_, hT, ?_⟩
  refine ⟨false, ?_, ?_⟩
  · refine not_true ?_
    rw [weight_of_eval hy1 hy3, weight_eval (o := (some (PyData.tuple (ofN ys))).bind dItems) (ws := ws) (lot := ys) rfl hy1 hy3, same_intR]
  refine ⟨_, firsts_eval hx hl, ?_⟩
  refine ⟨_, sum_intsT ws, ?_⟩
  refine ⟨_, pairs_eval hW hl, ?_⟩
  refine ⟨_, hc, ?_⟩
  refine ⟨false, ?_, ?_⟩
  · refine not_true ?_
    rw [hc, Option.map_some, c2_some]
    exact same_ok (flat_cuts ws xs hl)
  refine ⟨_, greater_eval (ws := ws) (xs := xs) rfl hl, ?_⟩
  refine ⟨false, ?_, ?_⟩
  · refine not_true ?_
    rw [hj2, hj1, same_intR]
  refine ⟨_, hlow, ?_⟩
  rw [hn, hW]
  refine ⟨_, hhigh, ?_⟩
  dsimp only [nilCM, cel2M, onDM]
  have hbd : wt ws (xs.take (xs.length - 1)) - 1 - wt ws (xs.take 1) < 2 ^ 255 := by
    have : (12 : Int) * 10 ^ 40 < 2 ^ 255 := by decide
    omega
  have sF := sp_firsts (ws := ws) (xs := xs) (by omega) hl
  rw [hn] at sF hbd ⊢
  refine (sp_lst (sp_cons (sp_lift rfl) (sp_cons (sp_lift rfl) (sp_cons (sp_between hbd) (sp_cons sF sp_nil))))).use (by omega) fun d m2 hm2 hd => ?_
  rw [← hn] at *
  obtain ⟨ds, rfl, d1, r1, rfl, rfl, d2, r2, rfl, rfl, d3, r3, rfl, ⟨a, rfl⟩, d4, r4, rfl, ⟨b, rfl⟩, rfl⟩ := hd
  refine ⟨_, some_eval (ts := [wt ws (xs.take 1), wt ws (xs.take (xs.length - 1)) - 1, a, b]) rfl (by simp), ?_⟩
  refine (?_ : forK (S := Unit) (fun s34 target38 kk35 => tbodyI q (.tuple (ofN xs)) (tupI ws) (.list (firstsD ws xs)) target38 kk35) _ () _ _)
  rw [tbody_eq]
  refine tloop hp h2 (by omega) hw1 ?_ _ fun t ht => ?_
  · refine ⟨false, ?_, hk _ (by omega)⟩
    rw [hT]
    exact eq_text T
  · have := (List.mem_filter.mp ht).2
    simp only [Bool.and_eq_true, decide_eq_true_eq] at this
    omega
def bodyI (q : D → Nat → Prop) (kk2 : Unit → Nat → Prop) : Nat → Prop := ((consDM (op2 dAdd (lift (some (PyData.int 2))) (drawM (consM (lift (some (PyData.int 11))) nilM) (G1 m__law_take))) (consDM (drawM (consM (lift ((consO (some (PyData.int 9)) (consO (some (PyData.int 9)) (consO (b2 dPow (some (PyData.int 10)) (some (PyData.int 20))) (consO (b2 dPow (some (PyData.int 10)) (some (PyData.int 40))) (some []))))).map PyData.list)) nilM) (G1 m__law_one_of)) nilCM)) (cel2M (fun c7 c9 => (onDM (fun n6 => (onDM (fun most8 => ((consDM (drawM (consM (lift (some n6)) nilM) (G1 m__law_draw_order)) (consDM (appM (consM (lstM (lcM (lift (C1 (fun x => dRange [x]) (some n6))) fun place10 => turnM (lift (some true)) (op2 dAdd (lift (some (PyData.int 1))) (drawM (consM (lift (some most8)) nilM) (G1 m__law_take))))) nilM) (F1 dTup)) nilCM)) (cel2M (fun c12 c14 => (onDM (fun order11 => (onDM (fun weights13 => ((consDM (appM (consM (lstM (appM (consM (sliceM (lift (some order11)) (lift (some none)) (bindM (drawM (consM (lift (b2 dAdd (some n6) (some (PyData.int 1)))) nilM) (G1 m__law_take)) asI)) nilM) (F1 dSort))) nilM) (F1 dTup)) (consDM (lift (C1 dRepr ((consO (some weights13) (consO (some order11) (some []))).map PyData.tuple))) nilCM)) (cel2M (fun c16 c18 => (onDM (fun lot15 => (onDM (fun text17 => (ifK (lift (((C2 r__law_same (C2 m_weight_of (some weights13) (some lot15)) (C1 dSum ((lcO ((some lot15).bind dItems) fun place19 => turnO (some true) (b2 dIx (some weights13) (some place19))).map PyData.list))).bind asT).map (!·))) ((lift (some (PyData.bool false))) q) ((lstM (lift (lcO (C2 (fun x y => dRange [x, y]) (some (PyData.int 1)) (some n6)) fun size21 => turnO (some true) (C1 dSum ((lcO ((slO (some order11) (some none) ((some size21).bind asI)).bind dItems) fun place22 => turnO (some true) (b2 dIx (some weights13) (some place22))).map PyData.list))))) fun firsts20 => ((lift (C1 dSum (some weights13))) fun whole23 => ((lstM (lift (lcO ((some firsts20).bind dItems) fun first25 => turnO (some true) ((consO (some first25) (consO (b2 dSub (some whole23) (some first25)) (some []))).map PyData.tuple)))) fun pairs24 => ((lift (C2 m_every_cut_weight (some weights13) (some order11))) fun _ => (ifK (lift (((C2 r__law_same ((C2 m_every_cut_weight (some weights13) (some order11)).map PyData.list) (some pairs24)).bind asT).map (!·))) ((lift (some (PyData.bool false))) q) ((lstM (lift (lcO ((some pairs24).bind dItems) fun pair27 => turnO (some true) (C1 (dBest max) (some pair27))))) fun greater26 => (ifK (lift (((C2 r__law_same (C2 m_even_size (some weights13) (some order11)) (b2 dAdd (idxO (some greater26) (C1 (dBest min) (some greater26))) (some (PyData.int 1)))).bind asT).map (!·))) ((lift (some (PyData.bool false))) q) ((consDM (lift (b2 dIx (some weights13) (b2 dIx (some order11) (some (PyData.int 0))))) (consDM (lift (b2 dSub (b2 dSub (some whole23) (b2 dIx (some weights13) (b2 dIx (some order11) (b2 dSub (some n6) (some (PyData.int 1)))))) (some (PyData.int 1)))) nilCM)) (cel2M (fun c29 c31 => (onDM (fun low28 => (onDM (fun high30 => ((lstM (consM (lift (some low28)) (consM (lift (some high30)) (consM (op2 dAdd (lift (some low28)) (drawM (consM (lift (C2 dMax2 (some (PyData.int 1)) (b2 dAdd (b2 dSub (some high30) (some low28)) (some (PyData.int 1))))) nilM) (G1 m__law_take))) (consM (op2 dIx (lift (some firsts20)) (drawM (consM (lift (b2 dSub (some n6) (some (PyData.int 1)))) nilM) (G1 m__law_take))) nilM))))) fun some32 => ((lift (lcO ((some some32).bind dItems) fun one33 => turnO ((chainO dLe dLe (some low28) (some one33) (some high30)).bind asB) (some one33))) fun ds => forK (S := Unit) (fun s34 target38 kk35 => ((lift (C3 m_weighted_size (some weights13) (some order11) (some target38))) fun size39 => (ifK (lift (((C2 r__law_same (some size39) (C1 dLen ((lcO ((some firsts20).bind dItems) fun first40 => turnO ((b2 dLe (some first40) (some target38)).bind asB) (some first40)).map PyData.list))).bind asT).map (!·))) ((lift (some (PyData.bool false))) q) (ifK (lift (((chainO dLt dLe (b2 dSub (some target38) (C1 (dBest max) (some weights13))) (b2 dIx (some firsts20) (b2 dSub (some size39) (some (PyData.int 1)))) (some target38)).bind asB).map (!·))) ((lift (some (PyData.bool false))) q) (kk35 ()))))) ds () fun s37 => (ifK (lift ((b2 dNe (C1 dRepr ((consO (some weights13) (consO (some order11) (some []))).map PyData.tuple)) (some text17)).bind asB)) ((lift (some (PyData.bool false))) q) (kk2 ()))))) c31)) c29))))))))))))) c18)) c16))))) c14)) c12))))) c9)) c7))))
@[irreducible] def bodyK (q : D → Nat → Prop) (kk2 : Unit → Nat → Prop) : Nat → Prop := bodyI q kk2
theorem bodyK_eq : bodyI = bodyK := by
  funext q kk
  unfold bodyK
  rfl
theorem pow_eval (k : Nat) (h : k < 100) : b2 dPow (some (PyData.int 10)) (some (.int (k : Nat))) = some (.int ((10 ^ k : Nat) : Int)) := by
  rw [b2_some]
  show (if (0 : Int) ≤ (k : Int) ∧ (k : Int) ≤ 1000000 ∧ (10 : Int).natAbs < 2 ^ 64 then some (PyData.int (10 ^ (k : Int).toNat)) else none) = _
  rw [if_pos ⟨by omega, by omega, by decide⟩, Int.toNat_natCast, Int.natCast_pow]
  rfl
theorem some_list : (consO (some (PyData.int 9)) (consO (some (PyData.int 9)) (consO (b2 dPow (some (PyData.int 10)) (some (PyData.int 20))) (consO (b2 dPow (some (PyData.int 10)) (some (PyData.int 40))) (some []))))).map PyData.list = some (.list [.int ((9 : Nat) : Int), .int ((9 : Nat) : Int), .int ((10 ^ 20 : Nat) : Int), .int ((10 ^ 40 : Nat) : Int)]) := by
  have e1 := pow_eval 20 (by decide)
  have e2 := pow_eval 40 (by decide)
  rw [show ((20 : Nat) : Int) = 20 from rfl] at e1
  rw [show ((40 : Nat) : Int) = 40 from rfl] at e2
  rw [e1, e2]
  rfl
theorem sp_most : Sp 1 (drawM (consM (lift ((consO (some (PyData.int 9)) (consO (some (PyData.int 9)) (consO (b2 dPow (some (PyData.int 10)) (some (PyData.int 20))) (consO (b2 dPow (some (PyData.int 10)) (some (PyData.int 40))) (some []))))).map PyData.list)) nilM) (G1 m__law_one_of)) (fun d => ∃ k : Nat, d = .int (k : Int) ∧ 0 < k ∧ k ≤ 10 ^ 40) := fun q m hm hq => by
  refine ⟨_, some_list, (sp_one_of (by decide) (by decide)).use hm fun d m' hm' hd => hq d m' hm' ?_⟩
  simp only [List.mem_cons, List.not_mem_nil, or_false] at hd
  rcases hd with rfl | rfl | rfl | rfl
  · exact ⟨_, rfl, by decide, by decide⟩
  · exact ⟨_, rfl, by decide, by decide⟩
  · exact ⟨_, rfl, by decide, by decide⟩
  · exact ⟨_, rfl, by decide, by decide⟩
theorem sp_n : Sp 1 (op2 dAdd (lift (some (PyData.int 2))) (drawM (consM (lift (some (PyData.int 11))) nilM) (G1 m__law_take))) (fun d => ∃ k : Nat, d = .int (k : Int) ∧ 2 ≤ k ∧ k ≤ 12) := by
  refine (sp_op2 (sp_lift rfl) (sp_draw (k := 0) (n := 11) (sp_lift rfl) (by decide) (by decide)) fun x y hx hy => ?_).mono (by omega) fun _ h => h
  obtain ⟨v, rfl, hv⟩ := hy
  subst hx
  exact ⟨.int (2 + v), rfl, 2 + v, by rw [Int.natCast_add]; rfl, by omega, by omega⟩
theorem sp_drawOrder {n : Nat} (h : n < 100000) : Sp n (drawM (consM (lift (some (PyData.int (n : Nat)))) nilM) (G1 m__law_draw_order)) (fun d => ∃ xs : List Nat, d = .tuple (ofN xs) ∧ xs.Perm (List.range n)) := fun q m hm hq => ⟨_, rfl, sp_order h q m hm hq⟩
theorem turn_ok {q : D → Nat → Prop} {kk : Unit → Nat → Prop} {m : Nat} (hm : m + 30 ≤ 1000000000) (hk : ∀ m', m' ≤ m + 30 → kk () m') : bodyK q kk m := by
  rw [← bodyK_eq]
  unfold bodyI
  refine sp_n.useD (by omega) fun d m1 hm1 hd => ?_
  obtain ⟨n, rfl, h2, h12⟩ := hd
  refine sp_most.useD (by omega) fun d m2 hm2 hd => ?_
  obtain ⟨k, rfl, hk0, hk1⟩ := hd
  refine (sp_drawOrder (n := n) (by omega)).useD (by omega) fun d m3 hm3 hd => ?_
  obtain ⟨xs, rfl, hp⟩ := hd
  refine (sp_weights (n := n) (most := k) (by omega) hk0 (Nat.lt_of_le_of_lt hk1 (by decide))).useD (by omega) fun d m4 hm4 hd => ?_
  obtain ⟨ws, rfl, hl, hw⟩ := hd
  subst hl
  refine (?_ : restI q (.int (ws.length : Nat)) (.tuple (ofN xs)) (tupI ws) kk m4)
  rw [rest_eq]
  refine rest_ok hp h2 h12 (fun w h => ⟨(hw w h).1, ?_⟩) (by omega) fun m' hm' => hk m' (by omega)
  have := (hw w h).2
  have e : ((10 ^ 40 : Nat) : Int) = 10 ^ 40 := by decide
  omega
theorem turns_ok {q : D → Nat → Prop} {k : Unit → Nat → Prop} : ∀ (ds : List D) (m : Nat), m + 30 * ds.length ≤ 1000000000 → (∀ m', k () m') → forK (S := Unit) (fun s1 turn5 kk2 => bodyK q kk2) ds () k m
  | [], m, _, hk => hk m
  | d :: ds, m, hm, hk => turn_ok (by rw [List.length_cons] at hm; omega) fun m' hm' => turns_ok ds m' (by rw [List.length_cons] at hm; omega) hk
theorem law_holds : m_law qTrue 0 := by
  unfold m_law
  refine ⟨_, range_items (n := 3) (by decide), ?_⟩
  refine (?_ : forK (S := Unit) (fun s1 turn5 kk2 => bodyI qTrue kk2) _ () _ _)
  rw [bodyK_eq]
  refine turns_ok _ _ (by rw [rangeD_len]; decide) fun m' => ?_
  exact ⟨_, rfl, rfl⟩
end Dl

set_option Elab.async false
set_option linter.all false
set_option maxRecDepth 100000
namespace Dl
open PySem L2
/-! ### the end -/
theorem all_mk {l : PySem.W.OpenLaw} {w : World} {K : PySem.W.Frag} {h : Heap} {mg : Str → Option Value} {fa f1 f2 f3 f4 f6 f7 f8 f9 f10 f11 f12 : Addr} (X : K.In h) (G : h.Ns mainGlobals mg) (hfa : mg "law" = some (.ref fa))
    {od1 an1 od2 an2 od3 an3 od4 an4 od6 an6 od7 an7 od8 an8 od9 an9 od10 an10 od11 an11 od12 an12 : Option Addr} {sl1 sl2 sl3 sl4 sl6 sl7 sl8 sl9 sl10 sl11 sl12 : Array (Option Value)} {oc1 kV1 dc1 pm1 cd1 ct1 oc2 kV2 dc2 pm2 cd2 ct2 oc3 kV3 dc3 pm3 cd3 ct3 oc4 kV4 dc4 pm4 cd4 ct4 oc6 kV6 dc6 pm6 cd6 ct6 oc7 kV7 dc7 pm7 cd7 ct7 oc8 kV8 dc8 pm8 cd8 ct8 oc9 kV9 dc9 pm9 cd9 ct9 oc10 kV10 dc10 pm10 cd10 ct10 oc11 kV11 dc11 pm11 cd11 ct11 oc12 kV12 dc12 pm12 cd12 ct12 : Value}
    (a1 : PySem.W.nsIn K mainGlobals "weight_of" = some (some (.ref f1))) (l1 : K.lookup f1 = some ⟨oc1, od1, .func (PySem.W.fnOf "weight_of" "weight_of" (defArgs s_weight_of) (defBody s_weight_of) (defScope s_weight_of) .none kV1 dc1 pm1 an1 cd1 ct1), sl1⟩) (c1 : PySem.W.codeIn K cd1 "weight_of" = true) (k1 : PySem.W.keepIn K (.ref f1) = true)
    (a2 : PySem.W.nsIn K mainGlobals "weighted_size" = some (some (.ref f2))) (l2 : K.lookup f2 = some ⟨oc2, od2, .func (PySem.W.fnOf "weighted_size" "weighted_size" (defArgs s_weighted_size) (defBody s_weighted_size) (defScope s_weighted_size) .none kV2 dc2 pm2 an2 cd2 ct2), sl2⟩) (c2 : PySem.W.codeIn K cd2 "weighted_size" = true) (k2 : PySem.W.keepIn K (.ref f2) = true)
    (a3 : PySem.W.nsIn K mainGlobals "every_cut_weight" = some (some (.ref f3))) (l3 : K.lookup f3 = some ⟨oc3, od3, .func (PySem.W.fnOf "every_cut_weight" "every_cut_weight" (defArgs s_every_cut_weight) (defBody s_every_cut_weight) (defScope s_every_cut_weight) .none kV3 dc3 pm3 an3 cd3 ct3), sl3⟩) (c3 : PySem.W.codeIn K cd3 "every_cut_weight" = true) (k3 : PySem.W.keepIn K (.ref f3) = true)
    (a4 : PySem.W.nsIn K mainGlobals "even_size" = some (some (.ref f4))) (l4 : K.lookup f4 = some ⟨oc4, od4, .func (PySem.W.fnOf "even_size" "even_size" (defArgs s_even_size) (defBody s_even_size) (defScope s_even_size) .none kV4 dc4 pm4 an4 cd4 ct4), sl4⟩) (c4 : PySem.W.codeIn K cd4 "even_size" = true) (k4 : PySem.W.keepIn K (.ref f4) = true)
    (a6 : PySem.W.nsIn K mainGlobals "_law_open" = some (some (.ref f6))) (l6 : K.lookup f6 = some ⟨oc6, od6, .func (PySem.W.fnOf "_law_open" "_law_open" (defArgs s__law_open) (defBody s__law_open) (defScope s__law_open) .none kV6 dc6 pm6 an6 cd6 ct6), sl6⟩) (c6 : PySem.W.codeIn K cd6 "_law_open" = true) (k6 : PySem.W.keepIn K (.ref f6) = true)
    (a7 : PySem.W.nsIn K mainGlobals "_law_spread" = some (some (.ref f7))) (l7 : K.lookup f7 = some ⟨oc7, od7, .func (PySem.W.fnOf "_law_spread" "_law_spread" (defArgs s__law_spread) (defBody s__law_spread) (defScope s__law_spread) .none kV7 dc7 pm7 an7 cd7 ct7), sl7⟩) (c7 : PySem.W.codeIn K cd7 "_law_spread" = true) (k7 : PySem.W.keepIn K (.ref f7) = true)
    (a8 : PySem.W.nsIn K mainGlobals "_law_take" = some (some (.ref f8))) (l8 : K.lookup f8 = some ⟨oc8, od8, .func (PySem.W.fnOf "_law_take" "_law_take" (defArgs s__law_take) (defBody s__law_take) (defScope s__law_take) .none kV8 dc8 pm8 an8 cd8 ct8), sl8⟩) (c8 : PySem.W.codeIn K cd8 "_law_take" = true) (k8 : PySem.W.keepIn K (.ref f8) = true)
    (a9 : PySem.W.nsIn K mainGlobals "_law_same" = some (some (.ref f9))) (l9 : K.lookup f9 = some ⟨oc9, od9, .func (PySem.W.fnOf "_law_same" "_law_same" (defArgs s__law_same) (defBody s__law_same) (defScope s__law_same) .none kV9 dc9 pm9 an9 cd9 ct9), sl9⟩) (c9 : PySem.W.codeIn K cd9 "_law_same" = true) (k9 : PySem.W.keepIn K (.ref f9) = true)
    (a10 : PySem.W.nsIn K mainGlobals "_law_one_of" = some (some (.ref f10))) (l10 : K.lookup f10 = some ⟨oc10, od10, .func (PySem.W.fnOf "_law_one_of" "_law_one_of" (defArgs s__law_one_of) (defBody s__law_one_of) (defScope s__law_one_of) .none kV10 dc10 pm10 an10 cd10 ct10), sl10⟩) (c10 : PySem.W.codeIn K cd10 "_law_one_of" = true) (k10 : PySem.W.keepIn K (.ref f10) = true)
    (a11 : PySem.W.nsIn K mainGlobals "_law_draw_order" = some (some (.ref f11))) (l11 : K.lookup f11 = some ⟨oc11, od11, .func (PySem.W.fnOf "_law_draw_order" "_law_draw_order" (defArgs s__law_draw_order) (defBody s__law_draw_order) (defScope s__law_draw_order) .none kV11 dc11 pm11 an11 cd11 ct11), sl11⟩) (c11 : PySem.W.codeIn K cd11 "_law_draw_order" = true) (k11 : PySem.W.keepIn K (.ref f11) = true)
    (a12 : PySem.W.nsIn K mainGlobals "law" = some (some (.ref f12))) (l12 : K.lookup f12 = some ⟨oc12, od12, .func (PySem.W.fnOf "law" "law" (defArgs s_law) (defBody s_law) (defScope s_law) .none kV12 dc12 pm12 an12 cd12 ct12), sl12⟩) (c12 : PySem.W.codeIn K cd12 "law" = true) (k12 : PySem.W.keepIn K (.ref f12) = true)
    (z0 : PySem.W.nsIn K mainGlobals "bool" = some none)
    (z1 : PySem.W.nsIn K mainGlobals "enumerate" = some none)
    (z2 : PySem.W.nsIn K mainGlobals "int" = some none)
    (z3 : PySem.W.nsIn K mainGlobals "isinstance" = some none)
    (z4 : PySem.W.nsIn K mainGlobals "len" = some none)
    (z5 : PySem.W.nsIn K mainGlobals "list" = some none)
    (z6 : PySem.W.nsIn K mainGlobals "max" = some none)
    (z7 : PySem.W.nsIn K mainGlobals "min" = some none)
    (z8 : PySem.W.nsIn K mainGlobals "range" = some none)
    (z9 : PySem.W.nsIn K mainGlobals "repr" = some none)
    (z10 : PySem.W.nsIn K mainGlobals "sorted" = some none)
    (z11 : PySem.W.nsIn K mainGlobals "str" = some none)
    (z12 : PySem.W.nsIn K mainGlobals "sum" = some none)
    (z13 : PySem.W.nsIn K mainGlobals "tuple" = some none)
    (z14 : PySem.W.nsIn K mainGlobals "zip" = some none)
    : ∃ fd : FuncData, (∀ (s : Shared) (v : Value), BindsTo s fd ⟨[v], []⟩ [("script", v)]) ∧ ∀ base : Heap, K.In base → base.Ns mainGlobals mg → FnG l.prog w K mg base CX0 200 fa fd ["script"] (spLaw K) := by
  have e := hfa.symm.trans (PySem.W.mg_of X G a12)
  cases e
  refine ⟨PySem.W.fnOf "law" "law" (defArgs s_law) (defBody s_law) (defScope s_law) .none kV12 dc12 pm12 an12 cd12 ct12, fun s v => .of_eq rfl, fun base _ _ => ?_⟩
  exact ok_law (T := { 
    f_weight_of := _, fd_weight_of := _, F_weight_of := fun_mk (st := s_weight_of) l1 c1 k1, m_weight_of := PySem.W.mg_of X G a1,
    f_weighted_size := _, fd_weighted_size := _, F_weighted_size := fun_mk (st := s_weighted_size) l2 c2 k2, m_weighted_size := PySem.W.mg_of X G a2,
    f_every_cut_weight := _, fd_every_cut_weight := _, F_every_cut_weight := fun_mk (st := s_every_cut_weight) l3 c3 k3, m_every_cut_weight := PySem.W.mg_of X G a3,
    f_even_size := _, fd_even_size := _, F_even_size := fun_mk (st := s_even_size) l4 c4 k4, m_even_size := PySem.W.mg_of X G a4,
    f__law_open := _, fd__law_open := _, F__law_open := fun_mk (st := s__law_open) l6 c6 k6, m__law_open := PySem.W.mg_of X G a6,
    f__law_spread := _, fd__law_spread := _, F__law_spread := fun_mk (st := s__law_spread) l7 c7 k7, m__law_spread := PySem.W.mg_of X G a7,
    f__law_take := _, fd__law_take := _, F__law_take := fun_mk (st := s__law_take) l8 c8 k8, m__law_take := PySem.W.mg_of X G a8,
    f__law_same := _, fd__law_same := _, F__law_same := fun_mk (st := s__law_same) l9 c9 k9, m__law_same := PySem.W.mg_of X G a9,
    f__law_one_of := _, fd__law_one_of := _, F__law_one_of := fun_mk (st := s__law_one_of) l10 c10 k10, m__law_one_of := PySem.W.mg_of X G a10,
    f__law_draw_order := _, fd__law_draw_order := _, F__law_draw_order := fun_mk (st := s__law_draw_order) l11 c11 k11, m__law_draw_order := PySem.W.mg_of X G a11,
    f_law := _, fd_law := _, F_law := fun_mk (st := s_law) l12 c12 k12, m_law := PySem.W.mg_of X G a12,
    z_bool := PySem.W.mg_none_of X G z0,
    z_enumerate := PySem.W.mg_none_of X G z1,
    z_int := PySem.W.mg_none_of X G z2,
    z_isinstance := PySem.W.mg_none_of X G z3,
    z_len := PySem.W.mg_none_of X G z4,
    z_list := PySem.W.mg_none_of X G z5,
    z_max := PySem.W.mg_none_of X G z6,
    z_min := PySem.W.mg_none_of X G z7,
    z_range := PySem.W.mg_none_of X G z8,
    z_repr := PySem.W.mg_none_of X G z9,
    z_sorted := PySem.W.mg_none_of X G z10,
    z_str := PySem.W.mg_none_of X G z11,
    z_sum := PySem.W.mg_none_of X G z12,
    z_tuple := PySem.W.mg_none_of X G z13,
    z_zip := PySem.W.mg_none_of X G z14 }) law_holds
end Dl
open PySem PySem.W PyProof.Rows
set_option maxRecDepth 100000 in
set_option maxHeartbeats 0 in
theorem PySem.Challenge.cw_rootparts_k23_weights_along_orders_holds : PySem.Challenge.rw_rootparts_k23_weights_along_orders.Holds := by
  w_on; o_law; k_head; (case hw => w_witness2)
  k_fill
  refine Dl.walkG (l := PySem.Challenge.rw_rootparts_k23_weights_along_orders) (k := 200) rfl rfl ⟨rfl, by decide, by decide⟩ (fun w h Y => PySem.W.kIn_of Y) ?F
  case F =>
    intro w mg fa h KX G hmg
    refine' Dl.all_mk KX G hmg ?a1 ?l1 ?c1 ?k1 ?a2 ?l2 ?c2 ?k2 ?a3 ?l3 ?c3 ?k3 ?a4 ?l4 ?c4 ?k4 ?a6 ?l6 ?c6 ?k6 ?a7 ?l7 ?c7 ?k7 ?a8 ?l8 ?c8 ?k8 ?a9 ?l9 ?c9 ?k9 ?a10 ?l10 ?c10 ?k10 ?a11 ?l11 ?c11 ?k11 ?a12 ?l12 ?c12 ?k12 ?z0 ?z1 ?z2 ?z3 ?z4 ?z5 ?z6 ?z7 ?z8 ?z9 ?z10 ?z11 ?z12 ?z13 ?z14
    (case a1 => k_is); (case l1 => k_is); (case c1 => k_is); (case k1 => k_is)
    (case a2 => k_is); (case l2 => k_is); (case c2 => k_is); (case k2 => k_is)
    (case a3 => k_is); (case l3 => k_is); (case c3 => k_is); (case k3 => k_is)
    (case a4 => k_is); (case l4 => k_is); (case c4 => k_is); (case k4 => k_is)
    (case a6 => k_is); (case l6 => k_is); (case c6 => k_is); (case k6 => k_is)
    (case a7 => k_is); (case l7 => k_is); (case c7 => k_is); (case k7 => k_is)
    (case a8 => k_is); (case l8 => k_is); (case c8 => k_is); (case k8 => k_is)
    (case a9 => k_is); (case l9 => k_is); (case c9 => k_is); (case k9 => k_is)
    (case a10 => k_is); (case l10 => k_is); (case c10 => k_is); (case k10 => k_is)
    (case a11 => k_is); (case l11 => k_is); (case c11 => k_is); (case k11 => k_is)
    (case a12 => k_is); (case l12 => k_is); (case c12 => k_is); (case k12 => k_is)
    (case z0 => k_is)
    (case z1 => k_is)
    (case z2 => k_is)
    (case z3 => k_is)
    (case z4 => k_is)
    (case z5 => k_is)
    (case z6 => k_is)
    (case z7 => k_is)
    (case z8 => k_is)
    (case z9 => k_is)
    (case z10 => k_is)
    (case z11 => k_is)
    (case z12 => k_is)
    (case z13 => k_is)
    (case z14 => k_is)

