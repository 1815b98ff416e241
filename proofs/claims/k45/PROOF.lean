import PyProof.Rows.All
import Wide.All
import OpenK.AllK
import Wide.FinOn
import HandS.ForMost
import HandS.Walk
import HandS.Conv
import HandS.TupAny
import HandS.Zip
import HandS.IsInst
import HandS.Wide
import KE.KDictKeyed
import HandS.TupMul
import KE.DataEq
import HandS.Style
import HandS.Ends
import KE.SortUse
import KE.DataMinMax
import KE.SortData
import HandS.Deep
import KE.SortCalls
import HandS.TupSets
import HandS.SetFor
import HandS.Strs
import KE.GoesMore
import PyProof.EnumMake
import HandS.DictComp
import HandS.WordsDict
import KE.KRevSl
import PyProof.Rows.CallKwBuiltin
import KE.KDictDisplayH
import KE.KDictWalk
import HandS.Iter
import PyProof.Rows.RowBridgeK
import HandS.TupLen
import KE.KDictCopyH
import KE.KDictPairs
import KE.KEqDict
import HandS.Text
import HandS.Exc
import PySem.Challenge.RW_rootparts_k45_texts_both_ways
import HandS.Codes
set_option Elab.async false
set_option linter.all false
set_option autoImplicit false
set_option maxRecDepth 100000
namespace Dl
open PySem L2

abbrev D := PyData

/-- a plain tuple's object: nothing hangs on it -/
def Ob (o : Obj) : Prop := o.cls = .type "tuple" ∧ o.dict = none
def Tu (G : Hp) (p : Addr) (vs : List V) : Prop := ∃ o, Ob o ∧ G p = some (.frz o (.tup vs))
theorem Tu.mono {G G' : Hp} {p : Addr} {vs : List V} (h : Tu G p vs) (e : Same G G') : Tu G' p vs := by
  obtain ⟨o, ho, h⟩ := h
  exact ⟨o, ho, e _ _ h⟩
theorem Tu.sq {K : PySem.W.Frag} {G : Hp} {p : Addr} {vs : List V} (h : Tu G p vs) : SqT K G p vs := by
  obtain ⟨o, _, h⟩ := h
  exact .inl (.inr ⟨o, h⟩)
theorem Tu.new {H : Hp} {p : Addr} {o : Obj} {vs : List V} (ho : Ob o) : Tu (upd H p (.frz o (.tup vs))) p vs := ⟨o, ho, upd_same⟩
theorem Tu.one {G : Hp} {p : Addr} {vs ws : List V} (h : Tu G p vs) (k : Tu G p ws) : vs = ws := by
  obtain ⟨o, _, h⟩ := h
  obtain ⟨u, _, k⟩ := k
  rw [h] at k
  cases k
  rfl

mutual
def numK : NestedKey → Bool
  | .num _ => true
  | .tup ks => numKs ks
  | _ => false
def numKs : List NestedKey → Bool
  | [] => true
  | k :: ks => numK k && numKs ks
end
mutual
def kHash : NestedKey → Int
  | .num i => hashInt i
  | .tup ks => reduceHash (Builtin.Tuple.tupleHashOf (kHashes ks))
  | _ => 0
def kHashes : List NestedKey → List Int
  | [] => []
  | k :: ks => kHash k :: kHashes ks
end
mutual
theorem hash_num (w : World) : ∀ k : NestedKey, numK k = true → k.hash w = kHash k
  | .num _, _ => by simp only [NestedKey.hash, kHash]
  | .tup ks, h => by
    simp only [NestedKey.hash, kHash]
    rw [hashes_num w ks (by simpa only [numK] using h)]
  | .none, h => by simp [numK] at h
  | .text _, h => by simp [numK] at h
theorem hashes_num (w : World) : ∀ ks : List NestedKey, numKs ks = true → NestedKey.hashes w ks = kHashes ks
  | [], _ => by simp only [NestedKey.hashes, kHashes]
  | k :: ks, h => by
    simp only [numKs, Bool.and_eq_true] at h
    simp only [NestedKey.hashes, kHashes]
    rw [hash_num w k h.1, hashes_num w ks h.2]
end
mutual
def nkD : D → Option NestedKey
  | .int i => some (.num i)
  | .tuple ds => (nkDs ds).map .tup
  | _ => none
def nkDs : List D → Option (List NestedKey)
  | [] => some []
  | d :: ds => (nkD d).bind fun k => (nkDs ds).map (k :: ·)
end
/-- the key of a datum: a tuple, not too deep -/
def dkeyOf (d : D) : Option NestedKey := match d with
  | .tuple _ => (nkD d).bind fun k => if k.depth ≤ 8 then some k else none
  | _ => none
/-- the key of a datum: a number, a text -/
def skey : D → Option Key
  | .int i => some (.inl i)
  | .str z => some (.inr z)
  | _ => none
/-- a dict of numbers or texts -/
def simpB : List (D × D) → Bool
  | kv :: _ => (skey kv.1).isSome
  | [] => false
abbrev Ent := NestedKey × Addr × V
inductive EntR : List Ent → List (NestedKey × Addr × Value) → Prop
  | nil : EntR [] []
  | cons {k : NestedKey} {a : Addr} {v : V} {u : Value} {L : List Ent} {xs : List (NestedKey × Addr × Value)} : RelV v u → EntR L xs → EntR ((k, a, v) :: L) ((k, a, u) :: xs)
theorem EntR.keys {L : List Ent} {xs : List (NestedKey × Addr × Value)} (h : EntR L xs) : Vals (L.map fun x => V.ref x.2.1) (xs.map fun x => Value.ref x.2.1) := by
  induction h with
  | nil => exact .nil
  | cons _ _ ih => exact .cons rfl ih
theorem EntR.vals {L : List Ent} {xs : List (NestedKey × Addr × Value)} (h : EntR L xs) : Vals (L.map (·.2.2)) (xs.map (·.2.2)) := by
  induction h with
  | nil => exact .nil
  | cons r _ ih => exact .cons r ih
theorem EntR.same {L : List Ent} {xs : List (NestedKey × Addr × Value)} (h : EntR L xs) : xs.map (fun x => (x.1, x.2.1)) = L.map fun x => (x.1, x.2.1) := by
  induction h with
  | nil => rfl
  | cons _ _ ih => rw [List.map_cons, List.map_cons, ih]
structure DictN0 (h : Heap) (a : Addr) (L : List Ent) : Prop where
  few : L.length ≤ sizeLine
  lo : (a == sysModules) = false
  num : ∀ x ∈ L, numK x.1 = true
  nd : (L.map (·.1)).Nodup
  ob : ∃ o es ep xs, h.get? a = some o ∧ o.ExactDict ∧ o.data = .dict es ep ∧ es.toList = xs.map (fun x : NestedKey × Addr × Value => (⟨kHash x.1, .ref x.2.1, x.2.2⟩ : DictEntry)) ∧ EntR L xs
def DictNO (a : Addr) (L : List Ent) : HO := .ext fun h => DictN0 h a L

mutual
inductive Rp (G : Hp) : V → D → Prop
  | non : Rp G .non .none
  | bl (b : Bool) : Rp G (.bl b) (.bool b)
  | int (i : Int) : Rp G (.int i) (.int i)
  | str (z : Str) : Rp G (.str z) (.str z)
  | lst {p : Addr} {vs : List V} {ds : List D} : G p = some (.lst vs) → RpL G vs ds → Rp G (.ref p) (.list ds)
  | tup {p : Addr} {vs : List V} {ds : List D} : Tu G p vs → RpL G vs ds → Rp G (.ref p) (.tuple ds)
  | dic {p : Addr} {L : List Ent} {kvs : List (D × D)} : G p = some (DictNO p L) → (kvs.map fun x => dkeyOf x.1) = L.map (fun x => some x.1) → RpL G (L.map fun x => V.ref x.2.1) (kvs.map (·.1)) → RpL G (L.map (·.2.2)) (kvs.map (·.2)) → Rp G (.ref p) (.dict kvs)
  | dik {p : Addr} {es : List (Key × V)} {kvs : List (D × D)} : G p = some (.dK es) → es ≠ [] → (kvs.map fun x => skey x.1) = es.map (fun x => some x.1) → RpL G (es.map (·.2)) (kvs.map (·.2)) → Rp G (.ref p) (.dict kvs)
inductive RpL (G : Hp) : List V → List D → Prop
  | nil : RpL G [] []
  | cons {v : V} {vs : List V} {d : D} {ds : List D} : Rp G v d → RpL G vs ds → RpL G (v :: vs) (d :: ds)
end
mutual
theorem Rp.mono {G G' : Hp} (e : Same G G') : ∀ {v : V} {d : D}, Rp G v d → Rp G' v d
  | _, _, .non => .non
  | _, _, .bl b => .bl b
  | _, _, .int i => .int i
  | _, _, .str z => .str z
  | _, _, .lst h r => .lst (e _ _ h) (RpL.mono e r)
  | _, _, .tup h r => .tup (h.mono e) (RpL.mono e r)
  | _, _, .dic h k r s => .dic (e _ _ h) k (RpL.mono e r) (RpL.mono e s)
  | _, _, .dik h n k r => .dik (e _ _ h) n k (RpL.mono e r)
theorem RpL.mono {G G' : Hp} (e : Same G G') : ∀ {vs : List V} {ds : List D}, RpL G vs ds → RpL G' vs ds
  | _, _, .nil => .nil
  | _, _, .cons a b => .cons (Rp.mono e a) (RpL.mono e b)
end
mutual
def imm : D → Bool
  | .list _ => false
  | .dict _ => false
  | .tuple ds => immL ds
  | _ => true
def immL : List D → Bool
  | [] => true
  | d :: ds => imm d && immL ds
end
mutual
theorem Rp.keep {G G' : Hp} (e : ∀ p vs, Tu G p vs → Tu G' p vs) : ∀ {d : D} {v : V}, imm d = true → Rp G v d → Rp G' v d
  | .none, _, _, h => by cases h; exact .non
  | .bool _, _, _, h => by cases h; exact .bl _
  | .int _, _, _, h => by cases h; exact .int _
  | .str _, _, _, h => by cases h; exact .str _
  | .list _, _, i, h => by simp [imm] at i
  | .tuple _, _, i, h => by
    cases h with
    | tup h r => exact .tup (e _ _ h) (RpL.keep e (by simpa [imm] using i) r)
  | .dict _, _, i, h => by simp [imm] at i
theorem RpL.keep {G G' : Hp} (e : ∀ p vs, Tu G p vs → Tu G' p vs) : ∀ {ds : List D} {vs : List V}, immL ds = true → RpL G vs ds → RpL G' vs ds
  | [], _, _, h => by cases h; exact .nil
  | _ :: _, _, i, h => by
    cases h with
    | cons a b =>
      simp only [immL, Bool.and_eq_true] at i
      exact .cons (Rp.keep e i.1 a) (RpL.keep e i.2 b)
end
theorem RpL.length {G : Hp} : ∀ {ds : List D} {vs : List V}, RpL G vs ds → vs.length = ds.length
  | [], _, h => by cases h; rfl
  | _ :: _, _, h => by
    cases h with
    | cons _ b => simp [RpL.length b]
theorem RpL.get {G : Hp} : ∀ {ds : List D} {vs : List V} {i : Nat} {d : D}, RpL G vs ds → ds[i]? = some d → ∃ v, vs[i]? = some v ∧ Rp G v d
  | [], _, _, _, h, e => by simp at e
  | _ :: _, _, 0, _, h, e => by
    cases h with
    | cons a b => simp at e; subst e; exact ⟨_, rfl, a⟩
  | _ :: _, _, i + 1, _, h, e => by
    cases h with
    | cons a b =>
      obtain ⟨v, h1, h2⟩ := RpL.get (i := i) b (by simpa using e)
      exact ⟨v, by simpa using h1, h2⟩
theorem RpL.getV {G : Hp} : ∀ {ds : List D} {vs : List V} {i : Nat} {v : V}, RpL G vs ds → vs[i]? = some v → ∃ d, ds[i]? = some d ∧ Rp G v d
  | [], _, _, _, h, e => by cases h; simp at e
  | _ :: _, _, 0, _, h, e => by
    cases h with
    | cons a b => simp at e; subst e; exact ⟨_, rfl, a⟩
  | _ :: _, _, i + 1, _, h, e => by
    cases h with
    | cons a b =>
      obtain ⟨v, h1, h2⟩ := RpL.getV (i := i) b (by simpa using e)
      exact ⟨v, by simpa using h1, h2⟩
theorem RpL.append {G : Hp} : ∀ {ds es : List D} {vs ws : List V}, RpL G vs ds → RpL G ws es → RpL G (vs ++ ws) (ds ++ es)
  | [], _, _, _, h, k => by cases h; exact k
  | _ :: _, _, _, _, h, k => by
    cases h with
    | cons a b => exact .cons a (RpL.append b k)
theorem RpL.take {G : Hp} : ∀ {ds : List D} {vs : List V} (n : Nat), RpL G vs ds → RpL G (vs.take n) (ds.take n)
  | _, _, 0, _ => .nil
  | [], _, _ + 1, h => by cases h; exact .nil
  | _ :: _, _, n + 1, h => by
    cases h with
    | cons a b => exact .cons a (RpL.take n b)
theorem RpL.drop {G : Hp} : ∀ {ds : List D} {vs : List V} (n : Nat), RpL G vs ds → RpL G (vs.drop n) (ds.drop n)
  | _, _, 0, h => h
  | [], _, _ + 1, h => by cases h; exact .nil
  | _ :: _, _, n + 1, h => by
    cases h with
    | cons a b => exact RpL.drop n b
theorem RpL.set {G : Hp} : ∀ {ds : List D} {vs : List V} (n : Nat) {d : D} {v : V}, RpL G vs ds → Rp G v d → RpL G (vs.set n v) (ds.set n d)
  | [], _, _, _, _, h, _ => by cases h; exact .nil
  | _ :: _, _, 0, _, _, h, k => by
    cases h with
    | cons a b => exact .cons k b
  | _ :: _, _, n + 1, _, _, h, k => by
    cases h with
    | cons a b => exact .cons a (RpL.set n b k)
theorem RpL.eraseIdx {G : Hp} : ∀ {ds : List D} {vs : List V} (n : Nat), RpL G vs ds → RpL G (vs.eraseIdx n) (ds.eraseIdx n)
  | [], _, _, h => by cases h; exact .nil
  | _ :: _, _, 0, h => by
    cases h with
    | cons a b => exact b
  | _ :: _, _, n + 1, h => by
    cases h with
    | cons a b => exact .cons a (RpL.eraseIdx n b)
theorem RpL.ints {G : Hp} : ∀ {ns : List Int} {vs : List V}, RpL G vs (ns.map PyData.int) → vs = ns.map V.int
  | [], _, h => by cases h; rfl
  | n :: ns, _, h => by
    cases h with
    | cons a b => cases a; rw [RpL.ints b]; rfl
theorem RpL.ofInts {G : Hp} : ∀ {ns : List Int}, RpL G (ns.map V.int) (ns.map PyData.int)
  | [] => .nil
  | _ :: _ => .cons (.int _) RpL.ofInts

inductive Cell where
  | no
  | dat (d : D)
  | ow (d : D)
  | raw (v : V)
/-- a list of one's own, a dict of one's own -/
abbrev Cell.own (ds : List D) : Cell := .ow (.list ds)
abbrev Cell.odi (kvs : List (D × D)) : Cell := .ow (.dict kvs)
/-- the object of a datum of one's own -/
def OwnR (G : Hp) (l : Addr) (u : HO) : D → Prop
  | .list ds => ∃ vs, u = .lst vs ∧ RpL G vs ds
  | .dict kvs => ∃ L, u = DictNO l L ∧ (kvs.map fun x => dkeyOf x.1) = L.map (fun x => some x.1) ∧ RpL G (L.map fun x => V.ref x.2.1) (kvs.map (·.1)) ∧ RpL G (L.map (·.2.2)) (kvs.map (·.2))
  | _ => False
theorem OwnR.mono {G G' : Hp} (e : Same G G') {l : Addr} {u : HO} {d : D} (h : OwnR G l u d) : OwnR G' l u d := by
  cases d with
  | list ds => obtain ⟨vs, h1, h2⟩ := h; exact ⟨vs, h1, h2.mono e⟩
  | dict kvs => obtain ⟨L, h1, h2, h3, h4⟩ := h; exact ⟨L, h1, h2, h3.mono e, h4.mono e⟩
  | _ => exact h
theorem OwnR.rp {G : Hp} {l : Addr} {u : HO} {d : D} (h : OwnR G l u d) (g : G l = some u) : Rp G (.ref l) d := by
  cases d with
  | list ds => obtain ⟨vs, rfl, h2⟩ := h; exact .lst g h2
  | dict kvs => obtain ⟨L, rfl, h2, h3, h4⟩ := h; exact .dic g h2 h3 h4
  | _ => exact h.elim

/-- what else a def may turn: a pen. vol: its own addresses; S: what stays known; Dy: what it is after at most m draws -/
structure Res where
  vol : Addr → Prop
  S : Hp → Prop
  Dy : Hp → Nat → Prop
  sm : ∀ {G G' : Hp}, Same G G' → S G → S G'
  dm : ∀ {H H' : Hp} {m : Nat}, (∀ a, vol a → H' a = H a) → Dy H m → Dy H' m
  /-- the heap at the def's entry -/
  ent : Hp
def Res.pure (ent : Hp) : Res := ⟨fun _ => False, fun _ => True, fun _ _ => True, fun _ _ => trivial, fun _ _ => trivial, ent⟩

structure Grow (vol : Addr → Prop) (G H G' H' : Hp) : Prop where
  gg : Same G G'
  hh : ∀ a o, ¬ vol a → H a = some o → H' a = some o
  new : ∀ a, G a = none → H a ≠ none → G' a = none
theorem Grow.refl (vol : Addr → Prop) (G H : Hp) : Grow vol G H G H := ⟨Same.refl _, fun _ _ _ h => h, fun _ h _ => h⟩
theorem Grow.trans {vol : Addr → Prop} {G H G1 H1 G2 H2 : Hp} (a : Grow vol G H G1 H1) (hv : ∀ x, vol x → H1 x ≠ none) (b : Grow vol G1 H1 G2 H2) : Grow vol G H G2 H2 :=
  ⟨a.gg.trans b.gg, fun x o n h => b.hh x o n (a.hh x o n h), fun x g h => b.new x (a.new x g h) (by
    by_cases v : vol x
    · exact hv x v
    · cases e : H x with
      | none => exact absurd e h
      | some o => rw [a.hh x o v e]; exact fun z => by cases z)⟩

def CellR (R : Res) (G H : Hp) (o : Option (Option V)) : Cell → Prop
  | .no => True
  | .dat d => ∃ v, o = some (some v) ∧ Rp G v d
  | .raw v => o = some (some v)
  | .ow d => ∃ l u, o = some (some (.ref l)) ∧ G l = none ∧ ¬ R.vol l ∧ R.ent l = none ∧ H l = some u ∧ OwnR G l u d

/-- the heaps are in order -/
structure Sat (R : Res) (G H : Hp) (m : Nat) : Prop where
  gh : Same G H
  vg : ∀ a, R.vol a → G a = none
  vh : ∀ a, R.vol a → H a ≠ none
  js : R.S G
  jd : R.Dy H m
  en : ∀ p, H p = none → R.ent p = none
/-- the slots σ hold the cells ρ -/
structure Sit (R : Res) (σ : L2.St) (ρ : List Cell) (G H : Hp) (m : Nat) : Prop extends Sat R G H m where
  len : σ.length = ρ.length
  cell : ∀ (i : Nat) (c : Cell), ρ[i]? = some c → CellR R G H σ[i]? c
  apart : ∀ (i j : Nat) (d e : D) (l : Addr), ρ[i]? = some (.ow d) → ρ[j]? = some (.ow e) → σ[i]? = some (some (.ref l)) → σ[j]? = some (some (.ref l)) → i = j

section
variable {R : Res} {σ : L2.St} {ρ : List Cell} {G H G' H' : Hp} {m m' : Nat}
theorem CellR.grow {o : Option (Option V)} {c : Cell} (g : Grow R.vol G H G' H') (h : CellR R G H o c) : CellR R G' H' o c := by
  cases c with
  | no => trivial
  | dat d => obtain ⟨v, e, r⟩ := h; exact ⟨v, e, r.mono g.gg⟩
  | raw v => exact h
  | ow d =>
    obtain ⟨l, u, e, n, nv, en, hl, r⟩ := h
    exact ⟨l, u, e, g.new l n (by rw [hl]; exact fun z => by cases z), nv, en, g.hh l _ nv hl, r.mono g.gg⟩
theorem free_of {vol : Addr → Prop} {G H G' H' : Hp} {p : Addr} (g : Grow vol G H G' H') (hv : ∀ a, vol a → H' a ≠ none) (hp : H' p = none) : H p = none := by
  cases e : H p with
  | none => rfl
  | some o =>
    by_cases v : vol p
    · exact absurd hp (hv p v)
    · rw [g.hh p o v e] at hp; cases hp
theorem Sat.grow (S : Sat R G H m) (g : Grow R.vol G H G' H') (gh : Same G' H') (vh : ∀ a, R.vol a → H' a ≠ none) (jd : R.Dy H' m') : Sat R G' H' m' :=
  ⟨gh, fun a v => g.new a (S.vg a v) (S.vh a v), vh, R.sm g.gg S.js, jd, fun p h => S.en p (free_of g vh h)⟩
theorem Sit.grow (S : Sit R σ ρ G H m) (g : Grow R.vol G H G' H') (gh : Same G' H') (vh : ∀ a, R.vol a → H' a ≠ none) (jd : R.Dy H' m') : Sit R σ ρ G' H' m' :=
  ⟨S.toSat.grow g gh vh jd, S.len, fun i c h => (S.cell i c h).grow g, S.apart⟩
/-- the volatile stand as they stood -/
theorem Sit.growS (S : Sit R σ ρ G H m) (g : Grow (fun _ => False) G H G' H') (gh : Same G' H') : Sit R σ ρ G' H' m ∧ Grow R.vol G H G' H' := by
  have hs : ∀ a o, H a = some o → H' a = some o := fun a o h => g.hh a o (fun z => z) h
  have e : ∀ a, R.vol a → H' a = H a := fun a v => by
    cases q : H a with
    | none => exact absurd q (S.vh a v)
    | some o => exact hs a o q
  have g' : Grow R.vol G H G' H' := ⟨g.gg, fun a o _ h => hs a o h, g.new⟩
  exact ⟨S.grow g' gh (fun a v => by rw [e a v]; exact S.vh a v) (R.dm e S.jd), g'⟩
/-- a new object that all may know -/
theorem grow_new {p : Addr} (gh : Same G H) (hp : H p = none) (o : HO) : Grow (fun _ => False) G H (upd G p o) (upd H p o) ∧ Same (upd G p o) (upd H p o) := by
  have gp : G p = none := gh.free hp
  refine ⟨⟨fun a u h => by rw [upd_ne (ne_of_none h gp)]; exact h, fun a u _ h => by rw [upd_ne (ne_of_none h hp)]; exact h, fun a g h => ?_⟩, fun a u h => ?_⟩
  · by_cases e : a = p
    · subst e; exact absurd hp h
    · rw [upd_ne e]; exact g
  · by_cases e : a = p
    · subst e; rw [upd_same] at h ⊢; exact h
    · rw [upd_ne e] at h ⊢; exact gh a u h
/-- a new object of one's own -/
theorem grow_own {p : Addr} (gh : Same G H) (hp : H p = none) (o : HO) : Grow (fun _ => False) G H G (upd H p o) ∧ Same G (upd H p o) := by
  have gp : G p = none := gh.free hp
  exact ⟨⟨Same.refl _, fun a u _ h => by rw [upd_ne (ne_of_none h hp)]; exact h, fun a g _ => g⟩, fun a u h => by rw [upd_ne (ne_of_none h gp)]; exact gh a u h⟩
/-- what is one's own becomes known -/
theorem grow_share {p : Addr} {o : HO} (gh : Same G H) (gp : G p = none) (hp : H p = some o) : Same G (upd G p o) ∧ Same (upd G p o) H := by
  refine ⟨fun a u h => by rw [upd_ne (ne_of_none h gp)]; exact h, fun a u h => ?_⟩
  by_cases e : a = p
  · subst e; rw [upd_same] at h; rw [hp]; exact h
  · rw [upd_ne e] at h; exact gh a u h
theorem Sit.owT (S : Sit R σ ρ G H m) {i : Nat} {d : D} (h : ρ[i]? = some (.ow d)) : ∃ l u, σ[i]? = some (some (.ref l)) ∧ G l = none ∧ ¬ R.vol l ∧ R.ent l = none ∧ H l = some u ∧ OwnR G l u d := S.cell i _ h
theorem Sit.ownT (S : Sit R σ ρ G H m) {i : Nat} {ds : List D} (h : ρ[i]? = some (.own ds)) : ∃ l vs, σ[i]? = some (some (.ref l)) ∧ G l = none ∧ ¬ R.vol l ∧ R.ent l = none ∧ H l = some (.lst vs) ∧ RpL G vs ds := by
  obtain ⟨l, u, h1, h2, h3, h4, h5, vs, rfl, h6⟩ := S.owT h
  exact ⟨l, vs, h1, h2, h3, h4, h5, h6⟩
end

abbrev M (α : Type) := (α → Nat → Prop) → Nat → Prop
def lift {α : Type} (o : Option α) : M α := fun q m => ∃ a, o = some a ∧ q a m
theorem lift_some {α : Type} (a : α) (q : α → Nat → Prop) (m : Nat) : lift (some a) q m = q a m := by
  apply propext
  constructor
  · rintro ⟨_, e, h⟩
    cases e
    exact h
  · exact fun h => ⟨a, rfl, h⟩
/-- the reading of an expression that gives a datum -/
def tJ (R : Res) (ρ : List Cell) (T : M D) : TE := fun σ H Q => ∃ G m q, Sit R σ ρ G H m ∧ T q m ∧ ∀ v d G' H' m', Sit R σ ρ G' H' m' → Grow R.vol G H G' H' → Rp G' v d → q d m' → Q v H'
/-- .. a new list, nobody else's -/
def tL (R : Res) (ρ : List Cell) (T : M (List D)) : TE := fun σ H Q => ∃ G m q, Sit R σ ρ G H m ∧ T q m ∧ ∀ p vs ds G' H' m', Sit R σ ρ G' H' m' → Grow R.vol G H G' H' → H p = none → G' p = none → H' p = some (.lst vs) → RpL G' vs ds → q ds m' → Q (.ref p) H'
def tT (R : Res) (ρ : List Cell) (T : M Bool) : TT := fun σ H Q => ∃ G m q, Sit R σ ρ G H m ∧ T q m ∧ ∀ b G' H' m', Sit R σ ρ G' H' m' → Grow R.vol G H G' H' → q b m' → Q b H'
/-- n arguments -/
def tAs (R : Res) (ρ : List Cell) (n : Nat) (T : M (List D)) : TA := fun σ H Q => ∃ G m q, Sit R σ ρ G H m ∧ T q m ∧ ∀ vs ds G' H' m', Sit R σ ρ G' H' m' → Grow R.vol G H G' H' → RpL G' vs ds → ds.length = n → q ds m' → Q vs H'

def JM (X : Cx) (R : Res) (ρ : List Cell) (e : Expr) (T : M D) : Prop := PE X e (tJ R ρ T)
def JL (X : Cx) (R : Res) (ρ : List Cell) (e : Expr) (T : M (List D)) : Prop := PE X e (tL R ρ T)
def JT (X : Cx) (R : Res) (ρ : List Cell) (e : Expr) (T : M Bool) : Prop := PT X e (tT R ρ T)
def JA (X : Cx) (R : Res) (ρ : List Cell) (es : List Expr) (n : Nat) (T : M (List D)) : Prop := PA X es (tAs R ρ n T)

theorem PE.imp {X : Cx} {e : Expr} {t t' : TE} (h : PE X e t) (k : ∀ σ H Q, t' σ H Q → t σ H Q) : PE X e t' := ⟨fun pins s σ H Q I q => h.run pins s σ H Q I (k σ H Q q)⟩
theorem PT.imp {X : Cx} {e : Expr} {t t' : TT} (h : PT X e t) (k : ∀ σ H Q, t' σ H Q → t σ H Q) : PT X e t' := ⟨fun pins s σ H Q I q => h.run pins s σ H Q I (k σ H Q q)⟩
theorem PA.imp {X : Cx} {es : List Expr} {t t' : TA} (h : PA X es t) (k : ∀ σ H Q, t' σ H Q → t σ H Q) : PA X es t' := ⟨fun pos pins s σ H Q I q => h.run pos pins s σ H Q I (k σ H Q q)⟩

section
variable {X : Cx} {R : Res} {ρ : List Cell} {e a b : Expr} {pos : Pos}
theorem JM.imp {T T' : M D} (h : JM X R ρ e T) (k : ∀ q m, T' q m → T q m) : JM X R ρ e T' := PE.imp h fun _ _ _ ⟨G, m, q, S, t, c⟩ => ⟨G, m, q, S, k q m t, c⟩
theorem JT.imp {T T' : M Bool} (h : JT X R ρ e T) (k : ∀ q m, T' q m → T q m) : JT X R ρ e T' := PT.imp h fun _ _ _ ⟨G, m, q, S, t, c⟩ => ⟨G, m, q, S, k q m t, c⟩
theorem JL.imp {T T' : M (List D)} (h : JL X R ρ e T) (k : ∀ q m, T' q m → T q m) : JL X R ρ e T' := PE.imp h fun _ _ _ ⟨G, m, q, S, t, c⟩ => ⟨G, m, q, S, k q m t, c⟩
theorem JA.imp {es : List Expr} {n : Nat} {T T' : M (List D)} (h : JA X R ρ es n T) (k : ∀ q m, T' q m → T q m) : JA X R ρ es n T' := PA.imp h fun _ _ _ ⟨G, m, q, S, t, c⟩ => ⟨G, m, q, S, k q m t, c⟩

/-- a new list, shared -/
theorem JL.jm {T : M (List D)} (h : JL X R ρ e T) : JM X R ρ e (fun q => T fun ds => q (.list ds)) := by
  refine PE.imp h fun σ H Q ⟨G, m, q, S, t, c⟩ => ⟨G, m, _, S, t, fun p vs ds G' H' m' S' g hp gp hp' r hq => ?_⟩
  obtain ⟨g1, g2⟩ := grow_share S'.gh gp hp'
  have hvp : ¬ R.vol p := fun v => S.vh p v hp
  have g' : Grow R.vol G H (upd G' p (.lst vs)) H' := ⟨g.gg.trans g1, g.hh, fun x gx hx => by
    by_cases e : x = p
    · subst e; exact absurd hp hx
    · rw [upd_ne e]; exact g.new x gx hx⟩
  exact c _ _ _ _ m' (S.grow g' g2 S'.vh S'.jd) g' (.lst upd_same (r.mono g1)) hq

theorem jm_var (i : Nat) {x : Str} {d : D} (hρ : ρ[i]? = some (.dat d)) (hN : X.N[i]? = some x := by rfl) (hv : Vis X.env.scope x := by first | exact Or.inl rfl | exact Or.inr (Or.inl rfl) | exact Or.inr (Or.inr rfl)) (hd : (x == ("__debug__" : Str)) = false := by decide)
    (hcd : (x == ("__classdict__" : Str)) = false := by decide) : JM X R ρ (.Name x pos) (fun q m => q d m) := by
  refine PE.imp (pe_var (i := i) hN hv hd hcd) fun σ H Q ⟨G, m, q, S, t, c⟩ => ?_
  obtain ⟨v, e, r⟩ := S.cell i _ hρ
  exact ⟨v, e, c v d G H m S (Grow.refl _ _ _) r t⟩
theorem jm_int {i : Int} {j} : JM X R ρ (.Constant (.int i) j pos) (fun q m => q (.int i) m) := PE.imp pe_int fun _ H _ ⟨G, m, _, S, t, c⟩ => c _ _ G H m S (Grow.refl _ _ _) (.int i) t
theorem jm_bl {i : Bool} {j} : JM X R ρ (.Constant (.bool i) j pos) (fun q m => q (.bool i) m) := PE.imp pe_bl fun _ H _ ⟨G, m, _, S, t, c⟩ => c _ _ G H m S (Grow.refl _ _ _) (.bl i) t
theorem jm_non {j} : JM X R ρ (.Constant .none j pos) (fun q m => q .none m) := PE.imp pe_non fun _ H _ ⟨G, m, _, S, t, c⟩ => c _ _ G H m S (Grow.refl _ _ _) .non t
theorem jm_str {i : Str} {j} : JM X R ρ (.Constant (.str i) j pos) (fun q m => q (.str i) m) := PE.imp pe_str fun _ H _ ⟨G, m, _, S, t, c⟩ => c _ _ G H m S (Grow.refl _ _ _) (.str i) t

/-- an operation on values that makes no object: from data x, y (under C) the scalar g x y -/
def OpD (r : R2) (f : D → D → Option D) : Prop := ∀ (G H : Hp) (x y : V) (d e z : D) (Q : VK), Same G H → Rp G x d → Rp G y e → f d e = some z →
  (∀ v G' H', Grow (fun _ => False) G H G' H' → Same G' H' → Rp G' v z → Q v H') → r x y H Q
/-- .. in the data's own sequence -/
def op2 (f : D → D → Option D) (Ta Tb : M D) : M D := fun q m => Ta (fun x m1 => Tb (fun y m2 => lift (f x y) q m2) m1) m
theorem op_read {r : R2} {f : D → D → Option D} {Ta Tb : M D} (ho : OpD r f) (σ : L2.St) (H : Hp) (Q : VK) (h : tJ R ρ (op2 f Ta Tb) σ H Q) : tOp r (tJ R ρ Ta) (tJ R ρ Tb) σ H Q := by
  obtain ⟨G, m, q, S, t, c⟩ := h
  refine ⟨G, m, _, S, t, fun v d G1 H1 m1 S1 g1 r1 q1 => ⟨G1, m1, _, S1, q1, fun w e G2 H2 m2 S2 g2 r2 q2 => ?_⟩⟩
  obtain ⟨z, hz, q3⟩ := q2
  refine ho G2 H2 v w d e z Q S2.gh (r1.mono g2.gg) r2 hz fun u G3 H3 g3 s3 r3 => ?_
  obtain ⟨S3, g3'⟩ := S2.growS g3 s3
  exact c u z G3 H3 m2 S3 ((g1.trans S1.vh g2).trans S2.vh g3') r3 q3
theorem jm_op {op : Operator} {r : R2} {f : D → D → Option D} {Ta Tb : M D} (hr : OpR X (binaryOp op) r) (ho : OpD r f) (ha : JM X R ρ a Ta) (hb : JM X R ρ b Tb) : JM X R ρ (.BinOp a op b pos) (op2 f Ta Tb) :=
  PE.imp (pe_op hr ha hb) (op_read ho)
theorem jm_cmp {op : CmpOp} {r : R2} {f : D → D → Option D} {Ta Tb : M D} (hr : OpR X (compareOp op) r) (ho : OpD r f) (ha : JM X R ρ a Ta) (hb : JM X R ρ b Tb) (hm : behindInMarks op b = false) : JM X R ρ (.Compare a [op] [b] pos) (op2 f Ta Tb) :=
  PE.imp (pe_cmpR hr ha hb hm) (op_read ho)
theorem jm_ix {r : R2} {f : D → D → Option D} {Ta Tb : M D} (hr : IxR X r) (ho : OpD r f) (ha : JM X R ρ a Ta) (hb : JM X R ρ b Tb) (hs : PlainIx b) : JM X R ρ (.Subscript a b pos) (op2 f Ta Tb) :=
  PE.imp (pe_ix hr ha hb hs) (op_read ho)
end
end Dl

set_option Elab.async false
set_option linter.all false
set_option autoImplicit false
set_option maxRecDepth 100000
set_option maxHeartbeats 1000000
namespace Dl
open PySem L2 PySem.Spec PyProof.Rows
theorem Tu.sqm {K : PySem.W.Frag} {G H : Hp} {p : Addr} {vs : List V} (h : Tu G p vs) (e : Same G H) : SqT K H p vs := (h.mono e).sq
theorem Tu.ok {P : Program} {w : World} {H : Hp} {h : Heap} {p : Addr} {vs : List V} (k : Tu H p vs) (x : HOk P w H h) : ObjOk P w H h p (.tup vs) := by
  obtain ⟨o, _, k⟩ := k
  exact Rd.ok (.inr ⟨o, k⟩) x
theorem Tu.key {P : Program} {w : World} {H : Hp} {h : Heap} {p : Addr} {ks : List Key} (k : Tu H p (ks.map kV)) (x : HOk P w H h) : (tupleKind (mixKind P w)).is h ks p := by
  obtain ⟨_, its, r, o, h1, h2, n, h3⟩ := k.ok x
  exact ⟨o, its.toArray, n, h1, h2, h3, by simpa using items_are r⟩
def NewT (H : Hp) (vs : List V) (Q : VK) : Prop := ∀ (p : Addr) (o : Obj), Ob o → H p = none → Q (.ref p) (upd H p (.frz o (.tup vs)))
section
variable {X : Cx} {pins : List (Addr × Obj)} {σ : L2.St} {H : Hp} {s : Shared} {Q : VK} {te : TE} {e a b : Expr} {pos p : Pos}
theorem new_tup {vs : List V} {its : List Value} (tk : Nat) (I : Inv X pins σ H s) (r : Vals vs its) (z : vs.length ≤ sizeLine) (q : NewT H vs Q) :
    EP X pins σ Q (.ref s.heap.objs.size) { s with heap := s.heap.push { cls := .type "tuple", data := .seq its.toArray }, toks := tk } :=
  ⟨.ref s.heap.objs.size, _, I.laid (t' := tk) (o := .frz { cls := .type "tuple", data := .seq its.toArray } (.tup vs)) (fun _ _ k => Heap.get?_push_of_some _ k) (Nat.le_refl _)
    ⟨Heap.get?_push_size _ rfl, z, its, r, IsTup.new _ _⟩, rfl, q _ _ ⟨rfl, rfl⟩ (I.hok.fresh (Nat.le_refl _))⟩
theorem pe_tupF {es : List Expr} {t : TA} {x1} (h : PA X es t) : PE X (.Tuple es x1 pos) (fun σ H Q => t σ H fun vs H1 => vs.length ≤ sizeLine ∧ NewT H1 vs Q) :=
  ⟨fun pins s σ H Q I hq => wpAny_Tuple_spliced (thn (h.run pos pins s σ H _ I hq) fun us s1 ⟨vs, H1, I1, r, z, q⟩ => ⟨by
    have := r.length
    omega, new_tup s1.toks I1 r z q⟩)⟩
/-- tuple(..) -/
def rTupF (K : PySem.W.Frag) : List V → Hp → VK → Prop := fun xs H Q => ∃ p ys, xs = [.ref p] ∧ ((SqL K H p ys ∧ NewT H ys Q) ∨ (SqT K H p ys ∧ Q (.ref p) H))
theorem call_tupF : CallR X (.type "tuple") (rTupF X.K) := by
  intro pins s σ H xs us Q I r h
  obtain ⟨p, ys, rfl, h⟩ := h
  obtain ⟨u, rfl, rx⟩ := vals1 r
  cases rx
  rcases h with ⟨hq, q⟩ | ⟨hq, q⟩
  · obtain ⟨its, rv, pl, hz⟩ := I.list hq
    have hl := rv.length
    refine call_tuple_list pl.isList (fun h' kp => ?_) (by rw [List.size_toArray]; omega)
    exact new_tup s.toks (I.kept (t' := s.toks) kp) rv hz q
  · exact call_tuple_of pins s σ H _ _ Q I r ⟨p, ys, rfl, .inr ⟨hq, q⟩⟩
/-- t + u -/
def rCatF (K : PySem.W.Frag) : R2 := fun x y H Q => ∃ a b xs ys, x = .ref a ∧ y = .ref b ∧ SqT K H a xs ∧ SqT K H b ys ∧ xs.length + ys.length ≤ sizeLine ∧
  (xs = [] → Q (.ref b) H) ∧ (xs ≠ [] → ys = [] → Q (.ref a) H) ∧ (xs ≠ [] → ys ≠ [] → NewT H (xs ++ ys) Q)
theorem op_catF : OpR X (binaryOp .Add) (rCatF X.K) := by
  intro pins s σ H x y v u Q I rx ry h
  obtain ⟨a, b, xs, ys, rfl, rfl, ha, hb, hz, q0, q1, q2⟩ := h
  by_cases hx : xs = []
  · exact op_catA pins s σ H _ _ v u Q I rx ry ⟨a, b, xs, ys, rfl, rfl, ha, hb, hz, q0, q1, fun n => absurd hx n⟩
  by_cases hy : ys = []
  · exact op_catA pins s σ H _ _ v u Q I rx ry ⟨a, b, xs, ys, rfl, rfl, ha, hb, hz, q0, q1, fun _ n => absurd hy n⟩
  cases rx
  cases ry
  obtain ⟨its, v1, p1, _⟩ := I.tuple ha
  obtain ⟨jts, v2, p2, _⟩ := I.tuple hb
  have l1 := v1.length
  have l2 := v2.length
  exact HT.cat_tup p1 p2 (fun z => hx (v1.nil_iff.mp z)) (fun z => absurd (v2.nil_iff.mp z) hy) (fun _ => new_tup s.toks I (v1.append v2) (by rw [List.length_append]; exact hz) (q2 hx hy)) (by omega)
/-- t[lo:hi] -/
def rSlF (K : PySem.W.Frag) : V → Option Int → Option Int → Hp → VK → Prop := fun x lo hi H Q => ∃ a xs, x = .ref a ∧ SqT K H a xs ∧
  (HT.sIx xs.length 0 lo = 0 ∧ HT.sIx xs.length xs.length hi = xs.length → Q (.ref a) H) ∧ (¬ (HT.sIx xs.length 0 lo = 0 ∧ HT.sIx xs.length xs.length hi = xs.length) → NewT H (cutV xs lo hi) Q)
theorem sl_tupF : SlR X (rSlF X.K) := by
  intro pins s σ H x v vl vu lo hi sl Q I rx hs pl pu h
  obtain ⟨a, xs, rfl, hx, q1, q2⟩ := h
  by_cases hw : HT.sIx xs.length 0 lo = 0 ∧ HT.sIx xs.length xs.length hi = xs.length
  · exact sl_tupA pins s σ H _ v vl vu lo hi sl Q I rx hs pl pu ⟨a, xs, rfl, hx, q1, fun n => absurd hw n⟩
  cases rx
  obtain ⟨its, rv, ht, hz⟩ := I.tuple hx
  have sz : its.toArray.size = xs.length := by
    rw [List.size_toArray, rv.length]
  refine ⟨"tuple", _, PyProof.Rows.slot_tuple_getitem.lookup, ht.typeIs, HT.getItem_tuple_cut ht hs pl pu (by rw [sz]; exact hw) ?_ (by rw [sz]; exact hz)⟩
  rw [sz]
  exact new_tup s.toks I ((rv.drop (HT.sIx xs.length 0 lo)).take (HT.sIx xs.length xs.length hi - HT.sIx xs.length 0 lo)) (Nat.le_trans (cutV_length xs lo hi) hz) (q2 hw)
end
end Dl

set_option Elab.async false
set_option linter.all false
set_option autoImplicit false
set_option maxRecDepth 100000
set_option maxHeartbeats 1000000
namespace Dl
open PySem L2

theorem dik_vals {P : Program} {w : World} : ∀ {es : List (Key × V)} {vs : List (Key × Value)} {ds : List DictEntry}, KV es vs → Pairs (mixKind P w) ds vs → True ∧ Vals (es.map (·.2)) (ds.map (·.val))
  | _, _, _, .nil, .nil => ⟨trivial, .nil⟩
  | _, _, _, .cons r rs, .cons h1 h2 hs => ⟨trivial, .cons (by show RelV _ (DictEntry.val _); rw [h2]; exact r.2) (dik_vals rs hs).2⟩
theorem dik_keys {P : Program} {w : World} {h : Heap} : ∀ {es : List (Key × V)} {vs : List (Key × Value)} {ds : List DictEntry} {kvs : List (D × D)}, KV es vs → Pairs (mixKind P w) ds vs → (kvs.map fun x => skey x.1) = es.map (fun x => some x.1) → ∃ as, ReadsAll h (ds.map (·.key)) (kvs.map (·.1)) as
  | _, _, _, [], .nil, .nil, _ => ⟨_, .nil⟩
  | _, _, _, _ :: _, .nil, .nil, e => by cases e
  | _, _, _, [], .cons _ _, .cons _ _ _, e => by cases e
  | _, _, _, kv :: kvs, .cons r rs, .cons h1 h2 hs, e => by
    rw [List.map_cons, List.map_cons] at e
    obtain ⟨e1, e2⟩ := List.cons.inj e
    obtain ⟨as, ra⟩ := dik_keys (h := h) rs hs e2
    rw [← r.1] at h1
    have one : ∃ bs, Reads h (DictEntry.key ‹DictEntry›) kv.1 bs := by
      rcases keyIs_shape h1 with ⟨i, t, hk, hv⟩ | ⟨x, t, hk, hv⟩
      · rw [hk] at e1
        match kv, e1 with
        | (.int j, _), e1 =>
          cases e1
          exact ⟨[], hv ▸ .int _ t⟩
      · rw [hk] at e1
        match kv, e1 with
        | (.str j, _), e1 =>
          cases e1
          exact ⟨[], hv ▸ .str _ t⟩
    obtain ⟨bs, rb⟩ := one
    exact ⟨_, .cons rb ra⟩
mutual
/-- how data stand in the raw heap, dicts within or not -/
theorem Rp.reads {X : Cx} {pins : List (Addr × Obj)} {σ : L2.St} {H : Hp} {s : Shared} (I : L2.Inv X pins σ H s) : ∀ {v : V} {d : D}, Rp H v d → ∀ {u : Value}, RelV v u → ∃ as, Reads s.heap u d as
  | _, _, .non => fun r => by cases r; exact ⟨_, .none⟩
  | _, _, .bl b => fun r => by cases r; exact ⟨_, .bool b⟩
  | _, _, .int i => fun r => by
    obtain ⟨t, rfl⟩ := r
    exact ⟨_, .int i t⟩
  | _, _, .str z => fun r => by
    obtain ⟨t, rfl⟩ := r
    exact ⟨_, .str z t⟩
  | _, _, .lst (p := p) hp q => fun r => by
    cases r
    obtain ⟨_, its, n, rv, ho⟩ := I.hok p _ hp
    obtain ⟨as, ra⟩ := RpL.reads I q rv
    exact ⟨p :: as, .list ho rfl rfl (by simpa using ra)⟩
  | _, _, .tup hp q => fun r => by
    cases r
    obtain ⟨_, its, rv, o, ho, hc, n, hd⟩ := hp.ok I.hok
    obtain ⟨as, ra⟩ := RpL.reads I q rv
    exact ⟨as, .tuple ho hc hd (by simpa using ra)⟩
  | _, _, .dic (p := p) hp hk q1 q2 => fun r => by
    cases r
    obtain ⟨o, es, ep, xs, ho, hx, hd, he, hr⟩ := (I.hok p _ hp).1.ob
    obtain ⟨as, ra⟩ := RpL.reads I q1 hr.keys
    obtain ⟨bs, rb⟩ := RpL.reads I q2 hr.vals
    exact ⟨_, Reads.dict (h := s.heap) ho hx.1 hd (by rw [he, List.map_map]; exact ra) (by rw [he, List.map_map]; exact rb)⟩
  | _, _, .dik (p := p) hp hn hk q => fun r => by
    cases r
    obtain ⟨_, _, vs, kv, o, es2, ep, ho, hx, hd, _, pr, _⟩ := I.hok p _ hp
    obtain ⟨v1, v2⟩ := dik_vals kv pr
    obtain ⟨bs, rb⟩ := RpL.reads I q v2
    obtain ⟨as, ra⟩ := dik_keys (h := s.heap) kv pr hk
    exact ⟨_, Reads.dict (h := s.heap) ho hx.1 hd ra rb⟩
theorem RpL.reads {X : Cx} {pins : List (Addr × Obj)} {σ : L2.St} {H : Hp} {s : Shared} (I : L2.Inv X pins σ H s) : ∀ {vs : List V} {ds : List D}, RpL H vs ds → ∀ {us : List Value}, Vals vs us → ∃ as, ReadsAll s.heap us ds as
  | _, _, .nil => fun r => by cases r; exact ⟨_, .nil⟩
  | _, _, .cons a b => fun r => by
    cases r with
    | cons x y =>
      obtain ⟨as, ra⟩ := Rp.reads I a x
      obtain ⟨bs, rb⟩ := RpL.reads I b y
      exact ⟨_, .cons ra rb⟩
end

mutual
theorem nestedR {h : Heap} : ∀ {v : Value} {d : D} {as : List Addr} {k : NestedKey}, Reads h v d as → nkD d = some k → NestedIs h k v
  | _, _, _, _, .int i t, e => by
    simp only [nkD, Option.some.injEq] at e
    subst e
    exact .int i t
  | _, _, _, _, .tuple h1 h2 h3 r, e => by
    simp only [nkD] at e
    obtain ⟨ks, hk, rfl⟩ := Option.map_eq_some_iff.mp e
    exact .tup h1 h2 h3 (nestedRs r hk)
  | _, _, _, _, .none, e => by cases e
  | _, _, _, _, .bool _, e => by cases e
  | _, _, _, _, .str _ _, e => by cases e
  | _, _, _, _, .list _ _ _ _, e => by cases e
  | _, _, _, _, .dict _ _ _ _ _, e => by cases e
theorem nestedRs {h : Heap} : ∀ {vs : List Value} {ds : List D} {as : List Addr} {ks : List NestedKey}, ReadsAll h vs ds as → nkDs ds = some ks → NestedAll h ks vs
  | _, _, _, _, .nil, e => by
    simp only [nkDs, Option.some.injEq] at e
    subst e
    exact .nil
  | _, _, _, _, .cons r rs, e => by
    simp only [nkDs] at e
    obtain ⟨k, hk, e⟩ := Option.bind_eq_some_iff.mp e
    obtain ⟨ks, hks, rfl⟩ := Option.map_eq_some_iff.mp e
    exact .cons (nestedR r hk) (nestedRs rs hks)
end
theorem dkey_tup {d : D} {k : NestedKey} (h : dkeyOf d = some k) : (∃ ds, d = .tuple ds) ∧ nkD d = some k ∧ k.depth ≤ 8 := by
  unfold dkeyOf at h
  cases d with
  | tuple ds =>
    obtain ⟨k', h1, h2⟩ := Option.bind_eq_some_iff.mp h
    by_cases hd : k'.depth ≤ 8
    · rw [if_pos hd] at h2
      cases h2
      exact ⟨⟨ds, rfl⟩, h1, hd⟩
    · rw [if_neg hd] at h2
      cases h2
  | _ => cases h
section
variable {X : Cx} {pins : List (Addr × Obj)} {σ : L2.St} {H : Hp} {s : Shared}
theorem Rp.key (I : L2.Inv X pins σ H s) {x : V} {d : D} {u : Value} {k : NestedKey} (r : Rp H x d) (rx : RelV x u) (hk : dkeyOf d = some k) : ∃ a, x = .ref a ∧ u = .ref a ∧ (nestedKind X.prog X.w).is s.heap k a := by
  obtain ⟨⟨ds, rfl⟩, h1, h2⟩ := dkey_tup hk
  obtain ⟨as, ra⟩ := Rp.reads I r rx
  cases r with
  | tup hp q =>
    cases rx
    exact ⟨_, rfl, rfl, nestedR ra h1, h2⟩
theorem keysIs (I : L2.Inv X pins σ H s) : ∀ {L : List Ent} {xs : List (NestedKey × Addr × Value)} {kvs : List (D × D)}, EntR L xs → (kvs.map fun x => dkeyOf x.1) = L.map (fun x => some x.1) → RpL H (L.map fun x => V.ref x.2.1) (kvs.map (·.1)) → ∀ x ∈ xs, (nestedKind X.prog X.w).is s.heap x.1 x.2.1
  | _, _, _, .nil, _, _, x, hx => nomatch hx
  | _, _, [], .cons _ _, hk, _, _, _ => by cases hk
  | _, _, kv :: kvs, .cons r rs, hk, rk, x, hx => by
    rw [List.map_cons, List.map_cons] at hk
    obtain ⟨h1, h2⟩ := List.cons.inj hk
    cases rk with
    | cons a b =>
      rcases List.mem_cons.mp hx with rfl | hx
      · obtain ⟨_, e, _, z⟩ := Rp.key I a (u := .ref _) rfl h1
        cases e
        exact z
      · exact keysIs I rs h2 b x hx
/-- what stands at a dict -/
theorem Rp.dictL (I : L2.Inv X pins σ H s) {p : Addr} {L : List Ent} {kvs : List (D × D)} (h1 : H p = some (DictNO p L)) (hk : (kvs.map fun x => dkeyOf x.1) = L.map (fun x => some x.1)) (rk : RpL H (L.map fun x => V.ref x.2.1) (kvs.map (·.1))) (rv : RpL H (L.map (·.2.2)) (kvs.map (·.2))) : ∃ xs, EntR L xs ∧ s.heap.DictOfH (nestedKind X.prog X.w) p xs ∧ (p == sysModules) = false ∧ L.length ≤ sizeLine ∧ (∀ x ∈ L, numK x.1 = true) ∧ (L.map (·.1)).Nodup := by
  have D0 := (I.hok p _ h1).1
  obtain ⟨o, es, ep, xs, g1, g2, g3, g4, g5⟩ := D0.ob
  have hs := g5.same
  have hnum : ∀ x ∈ xs, numK x.1 = true := fun x hx => by
    have : (x.1, x.2.1) ∈ L.map fun x => (x.1, x.2.1) := hs ▸ List.mem_map.mpr ⟨x, hx, rfl⟩
    obtain ⟨y, hy, e⟩ := List.mem_map.mp this
    obtain ⟨e1, _⟩ := Prod.mk.inj e
    exact e1 ▸ D0.num y hy
  refine ⟨xs, g5, ⟨o, es, ep, g1, g2, g3, ?_, keysIs I g5 hk rk, ?_⟩, D0.lo, D0.few, D0.num, D0.nd⟩
  · rw [g4]
    refine List.map_congr_left fun x hx => ?_
    show (⟨kHash x.1, .ref x.2.1, x.2.2⟩ : DictEntry) = ⟨x.1.hash X.w, .ref x.2.1, x.2.2⟩
    rw [hash_num X.w x.1 (hnum x hx)]
  · have : xs.map (·.1) = L.map (·.1) := by
      have := congrArg (List.map Prod.fst) hs
      rw [List.map_map, List.map_map] at this
      exact this
    rw [this]
    exact D0.nd
/-- the value at a key -/
def kAt (kvs : List (D × D)) (k : NestedKey) : Option D := (kvs.find? fun x => decide (dkeyOf x.1 = some k)).map (·.2)
/-- the value at a number, at a text -/
def sAt (kvs : List (D × D)) (k : Key) : Option D := (kvs.find? fun x => decide (skey x.1 = some k)).map (·.2)
theorem sat_rel : ∀ {es : List (Key × V)} {kvs : List (D × D)} (k : Key), (kvs.map fun x => skey x.1) = es.map (fun x => some x.1) → (sAt kvs k).isSome = (valV es k).isSome
  | [], [], _, _ => rfl
  | [], _ :: _, _, h => by cases h
  | _ :: _, [], _, h => by cases h
  | e :: es, kv :: kvs, k, h => by
    rw [List.map_cons, List.map_cons] at h
    obtain ⟨h1, h2⟩ := List.cons.inj h
    have ih := sat_rel k h2
    unfold sAt valV at *
    rw [List.find?_cons, List.find?_cons, h1]
    by_cases c : e.1 = k
    · rw [decide_eq_true c, decide_eq_true (by rw [c])]
      rfl
    · rw [decide_eq_false c, decide_eq_false (fun z => c (Option.some.inj z))]
      exact ih
theorem simp_dic {L : List Ent} {kvs : List (D × D)} (h : (kvs.map fun x => dkeyOf x.1) = L.map (fun x => some x.1)) : simpB kvs = false := by
  cases kvs with
  | nil => rfl
  | cons kv kvs =>
    cases L with
    | nil => cases h
    | cons l L =>
      rw [List.map_cons, List.map_cons] at h
      have h1 := (List.cons.inj h).1
      show (skey kv.1).isSome = false
      match kv, h1 with
      | (.tuple ds, _), _ => rfl
theorem simp_dik {es : List (Key × V)} {kvs : List (D × D)} (hn : es ≠ []) (h : (kvs.map fun x => skey x.1) = es.map (fun x => some x.1)) : simpB kvs = true := by
  cases kvs with
  | nil =>
    cases es with
    | nil => exact absurd rfl hn
    | cons _ _ => cases h
  | cons kv kvs =>
    cases es with
    | nil => exact absurd rfl hn
    | cons l L =>
      rw [List.map_cons, List.map_cons] at h
      show (skey kv.1).isSome = true
      rw [(List.cons.inj h).1]
      rfl
theorem kat_rel : ∀ {L : List Ent} {xs : List (NestedKey × Addr × Value)} {kvs : List (D × D)} (k : NestedKey), EntR L xs → (kvs.map fun x => dkeyOf x.1) = L.map (fun x => some x.1) → RpL H (L.map (·.2.2)) (kvs.map (·.2)) →
    (kAt kvs k = none ∧ atKey xs k = none) ∨ ∃ z a v u, kAt kvs k = some z ∧ atKey xs k = some (a, u) ∧ RelV v u ∧ Rp H v z
  | _, _, [], k, .nil, _, _ => .inl ⟨rfl, rfl⟩
  | _, _, _ :: _, k, .nil, hk, _ => by cases hk
  | _, _, [], k, .cons _ _, hk, _ => by cases hk
  | _, _, kv :: kvs, k, .cons (k := k0) (a := a0) r rs, hk, rv => by
    rw [List.map_cons, List.map_cons] at hk
    obtain ⟨h1, h2⟩ := List.cons.inj hk
    cases rv with
    | cons a b =>
      have e1 : ∀ b : Bool, decide (dkeyOf kv.1 = some k) = b → kAt (kv :: kvs) k = if b = true then some kv.2 else kAt kvs k := fun b e => by
        unfold kAt
        rw [List.find?_cons, e]
        cases b <;> rfl
      have e2 : ∀ (b : Bool) (x : NestedKey × Addr × Value) xs, decide (x.1 = k) = b → atKey (x :: xs) k = if b = true then some x.2 else atKey xs k := fun b x xs e => by
        unfold atKey
        rw [List.find?_cons, e]
        cases b <;> rfl
      by_cases hkk : k0 = k
      · subst hkk
        refine .inr ⟨kv.2, _, _, _, (e1 true (decide_eq_true h1)).trans (if_pos rfl), (e2 true _ _ (decide_eq_true rfl)).trans (if_pos rfl), r, a⟩
      · have d1 : decide (dkeyOf kv.1 = some k) = false := decide_eq_false fun e => hkk (Option.some.inj (h1.symm.trans e))
        rw [e1 false d1, e2 false _ _ (decide_eq_false hkk), if_neg (by simp), if_neg (by simp)]
        exact kat_rel k rs h2 b
end
def intsOf : List D → Option (List Int)
  | [] => some []
  | .int i :: r => (intsOf r).map (i :: ·)
  | _ => none
theorem intsOf_eq : ∀ {ds : List D} {ns : List Int}, intsOf ds = some ns → ds = ns.map PyData.int
  | [], ns, h => by cases h; rfl
  | .int i :: r, ns, h => by
    simp only [intsOf, Option.map_eq_some_iff] at h
    obtain ⟨k, h1, rfl⟩ := h
    rw [intsOf_eq h1]; rfl
  | .none :: _, _, h => by cases h
  | .bool _ :: _, _, h => by cases h
  | .str _ :: _, _, h => by cases h
  | .list _ :: _, _, h => by cases h
  | .tuple _ :: _, _, h => by cases h
  | .dict _ :: _, _, h => by cases h
theorem intsOf_map : ∀ (ns : List Int), intsOf (ns.map PyData.int) = some ns
  | [] => rfl
  | n :: r => by simp [intsOf, intsOf_map r]
/-- any tuple and the empty one -/
def isE : D → D → Bool
  | .tuple _, .tuple [] => true
  | _, _ => false
def eqOk (d e : D) : Bool := (d.plain && e.plain && decide (min d.depth e.depth ≤ 64)) || isE d e
def dAdd : D → D → Option D
  | .int i, .int j => some (.int (i + j))
  | .tuple xs, .tuple ys => if xs.length + ys.length ≤ sizeLine then some (.tuple (xs ++ ys)) else none
  | .list xs, .list ys => if xs.length + ys.length ≤ sizeLine then some (.list (xs ++ ys)) else none
  | .str x, .str y => if x.length + y.length ≤ sizeLine then some (.str (x ++ y)) else none
  | _, _ => none
def dSub : D → D → Option D
  | .int i, .int j => some (.int (i - j))
  | _, _ => none
def dMul : D → D → Option D
  | .int i, .int j => if i.natAbs.log2 + j.natAbs.log2 < 1000000 then some (.int (i * j)) else none
  | _, _ => none
def dFdiv : D → D → Option D
  | .int i, .int j => if 0 < j ∧ j.natAbs.log2 < 9000 then some (.int (i / j)) else none
  | _, _ => none
def dMod : D → D → Option D
  | .int i, .int j => if 0 < j then some (.int (i % j)) else none
  | _, _ => none
def dPow : D → D → Option D
  | .int i, .int j => if 0 ≤ j ∧ j ≤ 1000000 ∧ i.natAbs < 2 ^ 64 then some (.int (i ^ j.toNat)) else none
  | _, _ => none
def dLt : D → D → Option D
  | .int i, .int j => some (.bool (decide (i < j)))
  | .tuple xs, .tuple ys => (intsOf xs).bind fun ns => (intsOf ys).bind fun ms => some (.bool (HT.lexLt ns ms))
  | _, _ => none
def dCmp (p : Int → Int → Bool) : D → D → Option D
  | .int i, .int j => some (.bool (p i j))
  | _, _ => none
def dEq (d e : D) : Option D := if eqOk d e = true then some (.bool (PyData.eqv d e)) else none
def dNe (d e : D) : Option D := if eqOk d e = true then some (.bool (!PyData.eqv d e)) else none
def inOk (d : D) (es : List D) : Bool := PyData.plainAll es && d.plain && decide (min (PyData.depthAll es) d.depth ≤ 64)
def dIn (neg : Bool) (d : D) : D → Option D
  | .list es => if inOk d es = true then some (.bool (if neg then !(es.any fun y => PyData.eqv y d) else es.any fun y => PyData.eqv y d)) else none
  | .tuple es => if inOk d es = true then some (.bool (if neg then !(es.any fun y => PyData.eqv y d) else es.any fun y => PyData.eqv y d)) else none
  | .dict kvs => if simpB kvs = true then (skey d).map fun k => .bool (if neg then !(sAt kvs k).isSome else (sAt kvs k).isSome) else (dkeyOf d).map fun k => .bool (if neg then !(kAt kvs k).isSome else (kAt kvs k).isSome)
  | _ => none
def dIsN (neg : Bool) (d : D) : D → Option D
  | .none => some (.bool (if neg then !(match d with | .none => true | _ => false) else (match d with | .none => true | _ => false)))
  | _ => none
def dIx : D → D → Option D
  | .list xs, .int i => atI xs i
  | .tuple xs, .int i => atI xs i
  | .dict kvs, d => if simpB kvs = true then none else (dkeyOf d).bind (kAt kvs)
  | _, _ => none

section
variable {X : Cx}
theorem opd_scal {r : R2} {f : D → D → Option D}
    (h : ∀ (G H : Hp) (x y : V) (d e z : D), Same G H → Rp G x d → Rp G y e → f d e = some z → ∀ (Q : VK), (∀ v, Rp G v z → Q v H) → r x y H Q) : OpD r f := fun G H x y d e z Q gh rx ry hf k =>
  h G H x y d e z gh rx ry hf Q fun v r => k v G H (Grow.refl _ _ _) gh r
abbrev rAddD (K : PySem.W.Frag) : R2 := fun x y H Q => (rI0 (fun i j => V.int (i + j)) x y H Q) ∨ (rCatF K x y H Q) ∨ (rCat x y H Q) ∨ (∃ i j, x = V.str i ∧ y = V.str j ∧ i.length + j.length ≤ sizeLine ∧ Q (.str (i ++ j)) H)
theorem or_add : OpR X (binaryOp .Add) (rAddD X.K) := op_add.or (op_catF.or (op_cat.or op_add_str))
theorem od_add {K : PySem.W.Frag} : OpD (rAddD K) dAdd := by
  intro G H x y d e z Q gh rx ry hf k
  cases rx with
  | int i =>
    cases ry with
    | int j =>
      cases hf
      exact .inl ⟨i, j, rfl, rfl, k _ G H (Grow.refl _ _ _) gh (.int _)⟩
    | _ => cases hf
  | str i =>
    cases ry with
    | str j =>
      simp only [dAdd, Option.ite_none_right_eq_some, Option.some.injEq] at hf
      obtain ⟨hz, rfl⟩ := hf
      exact .inr (.inr (.inr ⟨i, j, rfl, rfl, hz, k _ G H (Grow.refl _ _ _) gh (.str _)⟩))
    | _ => cases hf
  | @tup p vs ds hp r =>
    cases ry with
    | @tup p2 vs2 ds2 hp2 r2 =>
      simp only [dAdd, Option.ite_none_right_eq_some, Option.some.injEq] at hf
      obtain ⟨hz, rfl⟩ := hf
      have l1 := r.length
      have l2 := r2.length
      refine .inr (.inl ⟨p, p2, vs, vs2, rfl, rfl, (hp.sqm gh), (hp2.sqm gh), by omega, fun e => ?_, fun _ e => ?_, fun _ _ q o ho hq => ?_⟩)
      · subst e
        have : ds = [] := by cases ds with | nil => rfl | cons _ _ => simp at l1
        subst this
        exact k _ G H (Grow.refl _ _ _) gh (.tup hp2 r2)
      · subst e
        have : ds2 = [] := by cases ds2 with | nil => rfl | cons _ _ => simp at l2
        subst this
        rw [List.append_nil] at k
        exact k _ G H (Grow.refl _ _ _) gh (.tup hp r)
      · obtain ⟨g, s⟩ := grow_new gh hq (.frz o (.tup (vs ++ vs2)))
        exact k _ _ _ g s (.tup (Tu.new ho) ((r.append r2).mono g.gg))
    | _ => cases hf
  | @lst p vs ds hp r =>
    cases ry with
    | @lst p2 vs2 ds2 hp2 r2 =>
      simp only [dAdd, Option.ite_none_right_eq_some, Option.some.injEq] at hf
      obtain ⟨hz, rfl⟩ := hf
      have l1 := r.length
      have l2 := r2.length
      refine .inr (.inr (.inl ⟨p, p2, vs, vs2, rfl, rfl, gh _ _ hp, gh _ _ hp2, by omega, fun q hq => ?_⟩))
      obtain ⟨g, s⟩ := grow_new gh hq (.lst (vs ++ vs2))
      exact k _ _ _ g s (.lst upd_same ((r.append r2).mono g.gg))
    | _ => cases hf
  | _ => cases hf
theorem od_sub : OpD (rI0 fun i j => V.int (i - j)) dSub := opd_scal fun G H x y d e z gh rx ry hf Q k => by
  cases rx with
  | int i =>
    cases ry with
    | int j => cases hf; exact ⟨i, j, rfl, rfl, k _ (.int _)⟩
    | _ => cases hf
  | _ => cases hf
theorem od_mul : OpD (rI CMulW fun i j => V.int (i * j)) dMul := opd_scal fun G H x y d e z gh rx ry hf Q k => by
  cases rx with
  | int i =>
    cases ry with
    | int j =>
      simp only [dMul, Option.ite_none_right_eq_some, Option.some.injEq] at hf
      obtain ⟨hz, rfl⟩ := hf
      exact ⟨i, j, rfl, rfl, hz, k _ (.int _)⟩
    | _ => cases hf
  | _ => cases hf
theorem od_fdiv : OpD (rI CDivW fun i j => V.int (i / j)) dFdiv := opd_scal fun G H x y d e z gh rx ry hf Q k => by
  cases rx with
  | int i =>
    cases ry with
    | int j =>
      simp only [dFdiv, Option.ite_none_right_eq_some, Option.some.injEq] at hf
      obtain ⟨hz, rfl⟩ := hf
      exact ⟨i, j, rfl, rfl, hz, k _ (.int _)⟩
    | _ => cases hf
  | _ => cases hf
theorem od_mod : OpD (rI (fun _ j => 0 < j) fun i j => V.int (i % j)) dMod := opd_scal fun G H x y d e z gh rx ry hf Q k => by
  cases rx with
  | int i =>
    cases ry with
    | int j =>
      simp only [dMod, Option.ite_none_right_eq_some, Option.some.injEq] at hf
      obtain ⟨hz, rfl⟩ := hf
      exact ⟨i, j, rfl, rfl, hz, k _ (.int _)⟩
    | _ => cases hf
  | _ => cases hf
theorem od_pow : OpD (rI CPow fun i j => V.int (i ^ j.toNat)) dPow := opd_scal fun G H x y d e z gh rx ry hf Q k => by
  cases rx with
  | int i =>
    cases ry with
    | int j =>
      simp only [dPow, Option.ite_none_right_eq_some, Option.some.injEq] at hf
      obtain ⟨hz, rfl⟩ := hf
      exact ⟨i, j, rfl, rfl, hz, k _ (.int _)⟩
    | _ => cases hf
  | _ => cases hf
theorem od_cmp {p : Int → Int → Bool} : OpD (rI0 fun i j => V.bl (p i j)) (dCmp p) := opd_scal fun G H x y d e z gh rx ry hf Q k => by
  cases rx with
  | int i =>
    cases ry with
    | int j => cases hf; exact ⟨i, j, rfl, rfl, k _ (.bl _)⟩
    | _ => cases hf
  | _ => cases hf
abbrev rLtD (K : PySem.W.Frag) : R2 := fun x y H Q => (rI0 (fun i j => V.bl (decide (i < j))) x y H Q) ∨ (rLtT K x y H Q)
theorem or_lt (hu : X.A.units < cLine) : OpR X (compareOp .Lt) (rLtD X.K) := op_lt.or (op_ltT hu)
theorem od_lt {K : PySem.W.Frag} : OpD (rLtD K) dLt := opd_scal fun G H x y d e z gh rx ry hf Q k => by
  cases rx with
  | int i =>
    cases ry with
    | int j => cases hf; exact .inl ⟨i, j, rfl, rfl, k _ (.bl _)⟩
    | _ => cases hf
  | @tup p vs ds hp r =>
    cases ry with
    | @tup p2 vs2 ds2 hp2 r2 =>
      simp only [dLt, Option.bind_eq_some_iff] at hf
      obtain ⟨ns, h1, ms, h2, h3⟩ := hf
      cases h3
      have e1 := intsOf_eq h1
      have e2 := intsOf_eq h2
      subst e1 e2
      have e1 := r.ints
      have e2 := r2.ints
      subst e1 e2
      exact .inr ⟨p, p2, ns, ms, rfl, rfl, (hp.sqm gh), (hp2.sqm gh), k _ (.bl _)⟩
    | _ => cases hf
  | _ => cases hf
/-- == and != of data -/
def rEq2 (neg : Bool) : R2 := fun x y H Q => ∃ d e, Rp H x d ∧ Rp H y e ∧ eqOk d e = true ∧ Q (.bl (if neg then !PyData.eqv d e else PyData.eqv d e)) H
theorem eqv_nil (xs : List D) : PyData.eqv (.tuple xs) (.tuple []) = xs.isEmpty := by cases xs <;> rfl
theorem rc_eq {prog : Program} {w : World} {A : Around} {E : Value → Shared → Prop} {s : Shared} {l b : Addr} {us ws : Array Value} {xs : List D} {Q : Value → Shared → Prop} (hl : s.heap.IsTuple l us) (hb : s.heap.IsTuple b ws) (h0 : ws.size = 0) (hx : us.toList.length = xs.length) (hu : A.units < cLine)
    (h : Q (.bool (PyData.eqv (.tuple xs) (.tuple []))) s) : wpAny (model prog w) A (compareOp .Eq (.ref l) (.ref b)) Q E s := by
  refine SeqAt.eq_tupleAt (e := fun _ => true) hl hb hu (fun j _ j2 => by omega) ?_
  rw [eqv_nil] at h
  have e : ((List.range (min us.size ws.size)).all (fun _ => true) && us.size == ws.size) = xs.isEmpty := by
    rw [h0]
    have : us.size = xs.length := by simpa using hx
    cases xs with
    | nil => simp_all
    | cons _ _ => simp [this]
  rw [e]
  exact h
theorem rc_ne {prog : Program} {w : World} {A : Around} {E : Value → Shared → Prop} {s : Shared} {l b : Addr} {us ws : Array Value} {xs : List D} {Q : Value → Shared → Prop} (hl : s.heap.IsTuple l us) (hb : s.heap.IsTuple b ws) (h0 : ws.size = 0) (hx : us.toList.length = xs.length) (hu : A.units < cLine)
    (h : Q (.bool (!PyData.eqv (.tuple xs) (.tuple []))) s) : wpAny (model prog w) A (compareOp .NotEq (.ref l) (.ref b)) Q E s := by
  rw [eqv_nil] at h
  refine SeqAt.RcNeAt.tuples (e := fun _ => true) hl hb hu (fun j _ j2 => by omega) prog w E Q ?_
  have e : ((List.range (min us.size ws.size)).all (fun _ => true) && us.size == ws.size) = xs.isEmpty := by
    rw [h0]
    have : us.size = xs.length := by simpa using hx
    cases xs with
    | nil => simp_all
    | cons _ _ => simp [this]
  rw [e]
  exact h
theorem or_eq (hu : X.A.units + 64 < cLine) : OpR X (compareOp .Eq) (rEq2 false) := by
  intro pins s σ H x y v u Q I rx ry h
  obtain ⟨d, e, hd, he, ok, q⟩ := h
  simp only [eqOk, Bool.or_eq_true, Bool.and_eq_true, decide_eq_true_eq] at ok
  obtain ⟨as, r1⟩ := Rp.reads I hd rx
  obtain ⟨bs, r2⟩ := Rp.reads I he ry
  rcases ok with ok | ok
  · exact SeqAt.eq_plain r1 r2 ok.1.1 ok.1.2 (by omega) ⟨.bl _, H, I, rfl, q⟩
  · match d, e, ok, r1, r2, q with
    | .tuple xs, .tuple [], _, .tuple h1 h2 h3 h4, .tuple k1 k2 k3 k4, q =>
      have n2 : ([] : List D).length = _ := (SeqAt.ReadsAll.length _ _ _ k4).symm
      exact rc_eq ⟨_, h1, h2, _, h3⟩ ⟨_, k1, k2, _, k3⟩ (by simpa using n2.symm) (SeqAt.ReadsAll.length _ _ _ h4) (by omega) ⟨.bl _, H, I, rfl, q⟩
theorem or_ne (hu : X.A.units + 64 < cLine) : OpR X (compareOp .NotEq) (rEq2 true) := by
  intro pins s σ H x y v u Q I rx ry h
  obtain ⟨d, e, hd, he, ok, q⟩ := h
  simp only [eqOk, Bool.or_eq_true, Bool.and_eq_true, decide_eq_true_eq] at ok
  obtain ⟨as, r1⟩ := Rp.reads I hd rx
  obtain ⟨bs, r2⟩ := Rp.reads I he ry
  rcases ok with ok | ok
  · exact SeqAt.ne_plain r1 r2 ok.1.1 ok.1.2 (by omega) ⟨.bl _, H, I, rfl, q⟩
  · match d, e, ok, r1, r2, q with
    | .tuple xs, .tuple [], _, .tuple h1 h2 h3 h4, .tuple k1 k2 k3 k4, q =>
      have n2 : ([] : List D).length = _ := (SeqAt.ReadsAll.length _ _ _ k4).symm
      exact rc_ne ⟨_, h1, h2, _, h3⟩ ⟨_, k1, k2, _, k3⟩ (by simpa using n2.symm) (SeqAt.ReadsAll.length _ _ _ h4) (by omega) ⟨.bl _, H, I, rfl, q⟩
theorem od_eq : OpD (rEq2 false) dEq := opd_scal fun G H x y d e z gh rx ry hf Q k => by
  simp only [dEq, Option.ite_none_right_eq_some, Option.some.injEq] at hf
  obtain ⟨hz, rfl⟩ := hf
  exact ⟨d, e, rx.mono gh, ry.mono gh, hz, k _ (.bl _)⟩
theorem od_ne : OpD (rEq2 true) dNe := opd_scal fun G H x y d e z gh rx ry hf Q k => by
  simp only [dNe, Option.ite_none_right_eq_some, Option.some.injEq] at hf
  obtain ⟨hz, rfl⟩ := hf
  exact ⟨d, e, rx.mono gh, ry.mono gh, hz, k _ (.bl _)⟩
/-- in, not in, of a list or a tuple of data -/
def rIn2 (neg : Bool) : R2 := fun x y H Q => ∃ d es, Rp H x d ∧ (Rp H y (.list es) ∨ Rp H y (.tuple es)) ∧ inOk d es = true ∧ Q (.bl (if neg then !(es.any fun z => PyData.eqv z d) else es.any fun z => PyData.eqv z d)) H
def rInK (neg : Bool) : R2 := fun x y H Q => ∃ d kvs k, Rp H x d ∧ Rp H y (.dict kvs) ∧ dkeyOf d = some k ∧ simpB kvs = false ∧ Q (.bl (if neg then !(kAt kvs k).isSome else (kAt kvs k).isSome)) H
theorem room8 {A : Around} (hu : A.units + 65 < cLine) (prog : Program) (w : World) : (nestedKind prog w).room A.in1 := by
  show A.units + 1 + 8 < cLine
  omega
def rInS (neg : Bool) : R2 := fun x y H Q => ∃ k p es, x = kV k ∧ y = .ref p ∧ H p = some (.dK es) ∧ Q (.bl (if neg then !(valV es k).isSome else (valV es k).isSome)) H
theorem or_inS (hu : X.A.units + 65 < cLine) : OpR X (compareOp .In) (rInS false) := by
  intro pins s σ H x y v u Q I rx ry h
  obtain ⟨k, p, es, rfl, rfl, hp, q⟩ := h
  cases ry
  exact d_in (by omega) I (DGet.k hp) rx fun s' I' => ⟨.bl _, H, I', rfl, q⟩
theorem or_notInS (hu : X.A.units + 65 < cLine) : OpR X (compareOp .NotIn) (rInS true) := by
  intro pins s σ H x y v u Q I rx ry h
  obtain ⟨k, p, es, rfl, rfl, hp, q⟩ := h
  cases ry
  exact d_notIn (by omega) I (DGet.k hp) rx fun s' I' => ⟨.bl _, H, I', rfl, q⟩
theorem or_inK (hu : X.A.units + 65 < cLine) : OpR X (compareOp .In) (rInK false) := by
  intro pins s σ H x y v u Q I rx ry h
  obtain ⟨d, kvs, k, hd, he, hk, hsm, q⟩ := h
  obtain ⟨a, rfl, rfl, ka⟩ := Rp.key I hd rx hk
  cases he with
  | dik h1 h2 h3 h4 => rw [simp_dik h2 h3] at hsm; cases hsm
  | dic h1 h2 h3 h4 =>
    obtain ⟨xs, g1, g2, g3, _⟩ := Rp.dictL I h1 h2 h3 h4
    have g4 := h2
    have g5 := h4
    cases ry
    refine wpAny_in_heap (room8 hu _ _) ka g3 g2 ⟨.bl _, H, I.tok _, rfl, ?_⟩
    rcases kat_rel k g1 g4 g5 with ⟨e1, e2⟩ | ⟨z, a, v, u, e1, e2, _⟩
    · rw [e1] at q
      rw [e2]
      exact q
    · rw [e1] at q
      rw [e2]
      exact q
theorem or_notInK (hu : X.A.units + 65 < cLine) : OpR X (compareOp .NotIn) (rInK true) := by
  intro pins s σ H x y v u Q I rx ry h
  obtain ⟨d, kvs, k, hd, he, hk, hsm, q⟩ := h
  obtain ⟨a, rfl, rfl, ka⟩ := Rp.key I hd rx hk
  cases he with
  | dik h1 h2 h3 h4 => rw [simp_dik h2 h3] at hsm; cases hsm
  | dic h1 h2 h3 h4 =>
    obtain ⟨xs, g1, g2, g3, _⟩ := Rp.dictL I h1 h2 h3 h4
    have g4 := h2
    have g5 := h4
    cases ry
    show wpAny _ _ (do return Value.bool (!(← contains (.ref _) (.ref _)))) _ _ _
    refine wpAny_bind (wpAny_contains_heap (room8 hu _ _) ka g3 g2 (wpAny_pure ⟨.bl _, H, I.tok _, rfl, ?_⟩))
    rcases kat_rel k g1 g4 g5 with ⟨e1, e2⟩ | ⟨z, a, v, u, e1, e2, _⟩
    · rw [e1] at q
      rw [e2]
      exact q
    · rw [e1] at q
      rw [e2]
      exact q
theorem or_in2 (hu : X.A.units + 65 < cLine) : OpR X (compareOp .In) (rIn2 false) := by
  intro pins s σ H x y v u Q I rx ry h
  obtain ⟨d, es, hd, he, ok, q⟩ := h
  simp only [inOk, Bool.and_eq_true, decide_eq_true_eq] at ok
  obtain ⟨as, r1⟩ := Rp.reads I hd rx
  rcases he with he | he
  · obtain ⟨bs, r2⟩ := Rp.reads I he ry
    exact SeqAt.in_list_data r2 r1 ok.1.1 ok.1.2 (by omega) ⟨.bl _, H, I, rfl, q⟩
  · obtain ⟨bs, r2⟩ := Rp.reads I he ry
    exact SeqAt.in_tuple_data r2 r1 ok.1.1 ok.1.2 (by omega) ⟨.bl _, H, I, rfl, q⟩
theorem or_notIn2 (hu : X.A.units + 65 < cLine) : OpR X (compareOp .NotIn) (rIn2 true) := by
  intro pins s σ H x y v u Q I rx ry h
  obtain ⟨d, es, hd, he, ok, q⟩ := h
  simp only [inOk, Bool.and_eq_true, decide_eq_true_eq] at ok
  obtain ⟨as, r1⟩ := Rp.reads I hd rx
  rcases he with he | he
  · obtain ⟨bs, r2⟩ := Rp.reads I he ry
    exact SeqAt.notIn_list_data r2 r1 ok.1.1 ok.1.2 (by omega) ⟨.bl _, H, I, rfl, q⟩
  · obtain ⟨bs, r2⟩ := Rp.reads I he ry
    exact SeqAt.notIn_tuple_data r2 r1 ok.1.1 ok.1.2 (by omega) ⟨.bl _, H, I, rfl, q⟩
theorem or_in (hu : X.A.units + 65 < cLine) : OpR X (compareOp .In) (fun x y H Q => rIn2 false x y H Q ∨ (rInK false x y H Q ∨ rInS false x y H Q)) := (or_in2 hu).or ((or_inK hu).or (or_inS hu))
theorem or_notIn (hu : X.A.units + 65 < cLine) : OpR X (compareOp .NotIn) (fun x y H Q => rIn2 true x y H Q ∨ (rInK true x y H Q ∨ rInS true x y H Q)) := (or_notIn2 hu).or ((or_notInK hu).or (or_notInS hu))
theorem od_in {neg : Bool} : OpD (fun x y H Q => rIn2 neg x y H Q ∨ (rInK neg x y H Q ∨ rInS neg x y H Q)) (dIn neg) := opd_scal fun G H x y d e z gh rx ry hf Q k => by
  cases ry with
  | @lst p vs es hp r =>
    simp only [dIn, Option.ite_none_right_eq_some, Option.some.injEq] at hf
    obtain ⟨hz, rfl⟩ := hf
    exact .inl ⟨d, es, rx.mono gh, .inl (.lst (gh _ _ hp) (r.mono gh)), hz, k _ (.bl _)⟩
  | @tup p vs es hp r =>
    simp only [dIn, Option.ite_none_right_eq_some, Option.some.injEq] at hf
    obtain ⟨hz, rfl⟩ := hf
    exact .inl ⟨d, es, rx.mono gh, .inr (.tup (hp.mono gh) (r.mono gh)), hz, k _ (.bl _)⟩
  | @dic p L kvs h1 h2 h3 h4 =>
    simp only [dIn, simp_dic h2, Bool.false_eq_true, if_false] at hf
    obtain ⟨kk, hk, rfl⟩ := Option.map_eq_some_iff.mp hf
    exact .inr (.inl ⟨d, kvs, kk, rx.mono gh, (Rp.dic h1 h2 h3 h4).mono gh, hk, simp_dic h2, k _ (.bl _)⟩)
  | @dik p es kvs h1 h2 h3 h4 =>
    simp only [dIn, simp_dik h2 h3, if_true] at hf
    obtain ⟨kk, hk, rfl⟩ := Option.map_eq_some_iff.mp hf
    have hx : x = kV kk := by
      cases rx with
      | int i => cases hk; rfl
      | str z => cases hk; rfl
      | _ => cases hk
    refine .inr (.inr ⟨kk, p, es, hx, rfl, gh _ _ h1, ?_⟩)
    rw [← sat_rel kk h3]
    exact k _ (.bl _)
  | _ => cases hf
theorem od_isN : OpD (fun x y H Q => y = .non ∧ Q (.bl (decide (x = .non))) H) (dIsN false) := opd_scal fun G H x y d e z gh rx ry hf Q k => by
  cases ry with
  | non =>
    cases hf
    refine ⟨rfl, k _ ?_⟩
    cases rx <;> exact .bl _
  | _ => cases hf
theorem od_notN : OpD (fun x y H Q => y = .non ∧ Q (.bl (!decide (x = .non))) H) (dIsN true) := opd_scal fun G H x y d e z gh rx ry hf Q k => by
  cases ry with
  | non =>
    cases hf
    refine ⟨rfl, k _ ?_⟩
    cases rx <;> exact .bl _
  | _ => cases hf
/-- the value at a key, as it stands -/
def entV (L : List Ent) (k : NestedKey) : Option V := (L.find? fun x => decide (x.1 = k)).map (·.2.2)
theorem kat_V : ∀ {G : Hp} {L : List Ent} {kvs : List (D × D)} {k : NestedKey} {z : D}, (kvs.map fun x => dkeyOf x.1) = L.map (fun x => some x.1) → RpL G (L.map (·.2.2)) (kvs.map (·.2)) → kAt kvs k = some z → ∃ v, entV L k = some v ∧ Rp G v z
  | _, _, [], _, _, _, _, h => by cases h
  | _, [], _ :: _, _, _, hk, _, _ => by cases hk
  | _, x :: L, kv :: kvs, k, z, hk, rv, h => by
    rw [List.map_cons, List.map_cons] at hk
    obtain ⟨h1, h2⟩ := List.cons.inj hk
    cases rv with
    | cons a b =>
      unfold kAt at h
      unfold entV
      rw [List.find?_cons] at h ⊢
      by_cases hkk : x.1 = k
      · have d1 : decide (dkeyOf kv.1 = some k) = true := decide_eq_true (hkk ▸ h1)
        rw [d1] at h
        rw [decide_eq_true hkk]
        cases h
        exact ⟨_, rfl, a⟩
      · have d1 : decide (dkeyOf kv.1 = some k) = false := decide_eq_false fun e => hkk (Option.some.inj (h1.symm.trans e))
        rw [d1] at h
        rw [decide_eq_false hkk]
        exact kat_V h2 b h
theorem kv_ent : ∀ {L : List Ent} {xs : List (NestedKey × Addr × Value)} {k : NestedKey} {v : V}, EntR L xs → entV L k = some v → ∃ a u, atKey xs k = some (a, u) ∧ RelV v u
  | _, _, _, _, .nil, h => by cases h
  | _, _, k, v, .cons (k := k0) r rs, h => by
    unfold entV at h
    unfold atKey
    rw [List.find?_cons] at h ⊢
    by_cases hkk : k0 = k
    · rw [decide_eq_true hkk] at h ⊢
      cases h
      exact ⟨_, _, rfl, r⟩
    · rw [decide_eq_false hkk] at h ⊢
      exact kv_ent rs h
def rIxK : R2 := fun x y H Q => ∃ (d : D) (kvs : List (D × D)) (k : NestedKey) (p : Addr) (L : List Ent) (v : V), Rp H y d ∧ x = .ref p ∧ H p = some (DictNO p L) ∧ (kvs.map fun x : D × D => dkeyOf x.1) = L.map (fun x => some x.1) ∧ RpL H (L.map fun x => V.ref x.2.1) (kvs.map (·.1)) ∧ RpL H (L.map (·.2.2)) (kvs.map (·.2)) ∧ dkeyOf d = some k ∧ entV L k = some v ∧ Q v H
theorem or_ixK (hu : X.A.units + 65 < cLine) : IxR X rIxK := by
  intro value slice pins s σ H x y v u Q I rx ry h hs
  obtain ⟨d, kvs, k, p, L, z, hd, rfl, h1, h2, h3, h4, hk, hz, q⟩ := h
  obtain ⟨a, rfl, rfl, ka⟩ := Rp.key I hd ry hk
  obtain ⟨xs, g1, g2, g3, _⟩ := Rp.dictL I h1 h2 h3 h4
  cases rx
  obtain ⟨a', u', e2, r1⟩ := kv_ent g1 hz
  exact PyProof.Rows.tail_any g2.typeIs PySem.F.slot_dict_getitem.lookup (wpAny_getItem_heap (room8 hu _ _) ka g2 e2 ⟨z, H, I.tok _, r1, q⟩) hs
theorem od_ix {K : PySem.W.Frag} : OpD (fun x y H Q => (rIxL K x y H Q ∨ rIxT K x y H Q) ∨ rIxK x y H Q) dIx := opd_scal fun G H x y d e z gh rx ry hf Q k => by
  have key : ∀ {vs : List V} {ds : List D} {i : Int}, RpL G vs ds → atI ds i = some z → ∃ v, atI vs i = some v ∧ Rp G v z := fun {vs ds i} r h => by
    unfold atI at h ⊢
    rw [r.length]
    obtain ⟨j, h1, h2⟩ := Option.bind_eq_some_iff.mp h
    obtain ⟨v, h3, h4⟩ := r.get h2
    exact ⟨v, by rw [h1]; exact h3, h4⟩
  cases rx with
  | @lst p vs ds hp r =>
    cases ry with
    | int i =>
      obtain ⟨v, h1, h2⟩ := key r hf
      exact .inl (.inl ⟨p, vs, i, v, rfl, rfl, SqL.of (gh _ _ hp), h1, k v h2⟩)
    | _ => cases hf
  | @tup p vs ds hp r =>
    cases ry with
    | int i =>
      obtain ⟨v, h1, h2⟩ := key r hf
      exact .inl (.inr ⟨p, vs, i, v, rfl, rfl, (hp.sqm gh), h1, k v h2⟩)
    | _ => cases hf
  | @dic p L kvs h1 h2 h3 h4 =>
    have hf : (if simpB kvs = true then none else (dkeyOf e).bind (kAt kvs)) = some z := hf
    rw [simp_dic h2, if_neg (by simp)] at hf
    obtain ⟨kk, hk, hz⟩ := Option.bind_eq_some_iff.mp hf
    obtain ⟨v, e1, e2⟩ := kat_V h2 h4 hz
    exact .inr ⟨e, kvs, kk, p, L, v, ry.mono gh, rfl, gh _ _ h1, h2, h3.mono gh, h4.mono gh, hk, e1, k v e2⟩
  | @dik p es kvs h1 h2 h3 h4 =>
    have hf : (if simpB kvs = true then none else (dkeyOf e).bind (kAt kvs)) = some z := hf
    rw [simp_dik h2 h3, if_pos rfl] at hf
    cases hf
  | _ => cases hf
theorem or_ix0 : IxR X (fun x y H Q => rIxL X.K x y H Q ∨ rIxT X.K x y H Q) := ix_list.or ix_tup
theorem or_ix (hu : X.A.units + 65 < cLine) : IxR X (fun x y H Q => (rIxL X.K x y H Q ∨ rIxT X.K x y H Q) ∨ rIxK x y H Q) := or_ix0.or (or_ixK hu)
end

theorem lift1 {α β : Type} {oa : Option α} {f : α → Option β} {q : β → Nat → Prop} {m : Nat} (h : lift (oa.bind f) q m) : lift oa (fun x m1 => lift (f x) q m1) m := by
  obtain ⟨z, h, hq⟩ := h
  obtain ⟨x, h1, h2⟩ := Option.bind_eq_some_iff.mp h
  exact ⟨x, h1, z, h2, hq⟩
theorem lift2 {f : D → D → Option D} {oa ob : Option D} {q : D → Nat → Prop} {m : Nat} (h : lift (oa.bind fun x => ob.bind fun y => f x y) q m) : op2 f (lift oa) (lift ob) q m := by
  obtain ⟨x, h1, h2⟩ := lift1 h
  obtain ⟨y, h3, h4⟩ := lift1 h2
  exact ⟨x, h1, y, h3, h4⟩
abbrev JE (X : Cx) (R : Res) (ρ : List Cell) (e : Expr) (o : Option D) : Prop := JM X R ρ e (lift o)
abbrev JTE (X : Cx) (R : Res) (ρ : List Cell) (e : Expr) (o : Option Bool) : Prop := JT X R ρ e (lift o)
abbrev JLE (X : Cx) (R : Res) (ρ : List Cell) (e : Expr) (o : Option (List D)) : Prop := JL X R ρ e (lift o)
theorem lift_some' {α : Type} {a : α} {q : α → Nat → Prop} {m : Nat} (h : lift (some a) q m) : q a m := by rw [lift_some] at h; exact h

section
variable {X : Cx} {R : Res} {ρ : List Cell} {e a b c : Expr} {pos : Pos}
theorem je_var (i : Nat) {x : Str} {d : D} (hρ : ρ[i]? = some (.dat d) := by rfl) (hN : X.N[i]? = some x := by rfl) (hv : Vis X.env.scope x := by first | exact Or.inl rfl | exact Or.inr (Or.inl rfl) | exact Or.inr (Or.inr rfl)) (hd : (x == ("__debug__" : Str)) = false := by decide)
    (hcd : (x == ("__classdict__" : Str)) = false := by decide) : JE X R ρ (.Name x pos) (some d) := (jm_var i hρ hN hv hd hcd).imp fun _ _ => lift_some'
theorem je_int {i : Int} {j} : JE X R ρ (.Constant (.int i) j pos) (some (.int i)) := jm_int.imp fun _ _ => lift_some'
theorem je_bl {i : Bool} {j} : JE X R ρ (.Constant (.bool i) j pos) (some (.bool i)) := jm_bl.imp fun _ _ => lift_some'
theorem je_non {j} : JE X R ρ (.Constant .none j pos) (some .none) := jm_non.imp fun _ _ => lift_some'
theorem je_str {i : Str} {j} : JE X R ρ (.Constant (.str i) j pos) (some (.str i)) := jm_str.imp fun _ _ => lift_some'
abbrev b2 (f : D → D → Option D) (oa ob : Option D) : Option D := oa.bind fun x => ob.bind fun y => f x y
theorem je_op {op : Operator} {r : R2} {f : D → D → Option D} {oa ob : Option D} (hr : OpR X (binaryOp op) r) (ho : OpD r f) (ha : JE X R ρ a oa) (hb : JE X R ρ b ob) : JE X R ρ (.BinOp a op b pos) (b2 f oa ob) := (jm_op hr ho ha hb).imp fun _ _ => lift2
theorem je_cmp {op : CmpOp} {r : R2} {f : D → D → Option D} {oa ob : Option D} (hr : OpR X (compareOp op) r) (ho : OpD r f) (ha : JE X R ρ a oa) (hb : JE X R ρ b ob) (hm : behindInMarks op b = false) : JE X R ρ (.Compare a [op] [b] pos) (b2 f oa ob) :=
  (jm_cmp hr ho ha hb hm).imp fun _ _ => lift2
theorem je_ix {oa ob : Option D} (hu : X.A.units + 65 < cLine) (ha : JE X R ρ a oa) (hb : JE X R ρ b ob) (hs : PlainIx b := by exact fun _ _ => rfl) : JE X R ρ (.Subscript a b pos) (b2 dIx oa ob) := (jm_ix (or_ix hu) od_ix ha hb hs).imp fun _ _ => lift2

def asB : D → Option Bool
  | .bool b => some b
  | _ => none
theorem asB_eq {d : D} {b : Bool} (h : asB d = some b) : d = .bool b := by
  cases d with
  | bool c => cases h; rfl
  | _ => cases h
theorem jt_cmp {op : CmpOp} {r : R2} {f : D → D → Option D} {Ta Tb : M D} (hr : OpR X (compareOp op) r) (ho : OpD r f) (ha : JM X R ρ a Ta) (hb : JM X R ρ b Tb) (hm : behindInMarks op b = false) : JT X R ρ (.Compare a [op] [b] pos) (fun q => op2 f Ta Tb fun d m => lift (asB d) q m) := by
  refine PT.imp (pt_cmpR hr ha hb hm) fun σ H Q ⟨G, m, q, S, t, k⟩ => op_read (R := R) (ρ := ρ) ho σ H _ ⟨G, m, _, S, t, fun v d G' H' m' S' g r hq => ?_⟩
  obtain ⟨b, hb, hq⟩ := hq
  rw [asB_eq hb] at r
  cases r
  exact ⟨b, rfl, k b G' H' m' S' g hq⟩
theorem jte_cmp {op : CmpOp} {r : R2} {f : D → D → Option D} {oa ob : Option D} (hr : OpR X (compareOp op) r) (ho : OpD r f) (ha : JE X R ρ a oa) (hb : JE X R ρ b ob) (hm : behindInMarks op b = false) : JTE X R ρ (.Compare a [op] [b] pos) ((b2 f oa ob).bind asB) :=
  (jt_cmp hr ho ha hb hm).imp fun _ _ h => lift2 (by
    obtain ⟨x, h1, h2⟩ := lift1 h
    exact ⟨x, h1, h2⟩)
def JW (X : Cx) (R : Res) (ρ : List Cell) (e : Expr) (T : M Bool) : Prop := PW X e (tT R ρ T)
theorem JW.jt {T : M Bool} (h : JW X R ρ e T) : JT X R ρ e T := PW.pt h
theorem PW.imp {t t' : TT} (h : PW X e t) (k : ∀ σ H Q, t' σ H Q → t σ H Q) : PW X e t' := ⟨fun wh pins s σ H Q I q => h.run wh pins s σ H Q I (k σ H Q q)⟩
theorem JW.imp {T T' : M Bool} (h : JW X R ρ e T) (k : ∀ q m, T' q m → T q m) : JW X R ρ e T' := PW.imp h fun _ _ _ ⟨G, m, q, S, t, c⟩ => ⟨G, m, q, S, k q m t, c⟩
variable {rest : List Expr}
theorem jw_and1 {T : M Bool} (ha : JT X R ρ a T) : JW X R ρ (.BoolOp .And [a] pos) T := pw_and1 ha
theorem jw_or1 {T : M Bool} (ha : JT X R ρ a T) : JW X R ρ (.BoolOp .Or [a] pos) T := pw_or1 ha
theorem jw_and {Ta Tb : M Bool} (ha : JT X R ρ a Ta) (hb : JW X R ρ (.BoolOp .And (b :: rest) pos) Tb) : JW X R ρ (.BoolOp .And (a :: b :: rest) pos) (fun q m => Ta (fun c m1 => if c = true then Tb q m1 else q false m1) m) := by
  refine PW.imp (pw_and ha hb) fun σ H Q ⟨G, m, q, S, t, k⟩ => ⟨G, m, _, S, t, fun c G1 H1 m1 S1 g1 q1 => ?_⟩
  cases c with
  | true =>
    show tT R ρ Tb σ H1 Q
    exact ⟨G1, m1, q, S1, q1, fun b G2 H2 m2 S2 g2 q2 => k b G2 H2 m2 S2 (g1.trans S1.vh g2) q2⟩
  | false =>
    show Q false H1
    exact k false G1 H1 m1 S1 g1 q1
theorem jw_or {Ta Tb : M Bool} (ha : JT X R ρ a Ta) (hb : JW X R ρ (.BoolOp .Or (b :: rest) pos) Tb) : JW X R ρ (.BoolOp .Or (a :: b :: rest) pos) (fun q m => Ta (fun c m1 => if c = true then q true m1 else Tb q m1) m) := by
  refine PW.imp (pw_or ha hb) fun σ H Q ⟨G, m, q, S, t, k⟩ => ⟨G, m, _, S, t, fun c G1 H1 m1 S1 g1 q1 => ?_⟩
  cases c with
  | false =>
    show tT R ρ Tb σ H1 Q
    exact ⟨G1, m1, q, S1, q1, fun b G2 H2 m2 S2 g2 q2 => k b G2 H2 m2 S2 (g1.trans S1.vh g2) q2⟩
  | true =>
    show Q true H1
    exact k true G1 H1 m1 S1 g1 q1
theorem jt_not {T : M Bool} (ha : JT X R ρ a T) : JT X R ρ (.UnaryOp .Not a pos) (fun q => T fun b => q (!b)) := by
  refine PT.imp (pt_not ha) fun σ H Q ⟨G, m, q, S, t, k⟩ => ⟨G, m, _, S, t, fun c G1 H1 m1 S1 g1 q1 => k (!c) G1 H1 m1 S1 g1 q1⟩
abbrev JWE (X : Cx) (R : Res) (ρ : List Cell) (e : Expr) (o : Option Bool) : Prop := JW X R ρ e (lift o)
def andO (oa ob : Option Bool) : Option Bool := oa.bind fun c => if c = true then ob else some false
def orO (oa ob : Option Bool) : Option Bool := oa.bind fun c => if c = true then some true else ob
theorem jwe_and {oa ob : Option Bool} (ha : JTE X R ρ a oa) (hb : JWE X R ρ (.BoolOp .And (b :: rest) pos) ob) : JWE X R ρ (.BoolOp .And (a :: b :: rest) pos) (andO oa ob) := (jw_and ha hb).imp fun q m h => by
  obtain ⟨c, h1, h2⟩ := lift1 h
  refine ⟨c, h1, ?_⟩
  cases c with
  | true => exact h2
  | false => exact lift_some' h2
theorem jwe_or {oa ob : Option Bool} (ha : JTE X R ρ a oa) (hb : JWE X R ρ (.BoolOp .Or (b :: rest) pos) ob) : JWE X R ρ (.BoolOp .Or (a :: b :: rest) pos) (orO oa ob) := (jw_or ha hb).imp fun q m h => by
  obtain ⟨c, h1, h2⟩ := lift1 h
  refine ⟨c, h1, ?_⟩
  cases c with
  | false => exact h2
  | true => exact lift_some' h2
theorem jwe_and1 {o : Option Bool} (ha : JTE X R ρ a o) : JWE X R ρ (.BoolOp .And [a] pos) o := jw_and1 ha
theorem jwe_or1 {o : Option Bool} (ha : JTE X R ρ a o) : JWE X R ρ (.BoolOp .Or [a] pos) o := jw_or1 ha
theorem jte_not {o : Option Bool} (ha : JTE X R ρ a o) : JTE X R ρ (.UnaryOp .Not a pos) (o.map (!·)) := (jt_not ha).imp fun q m h => by
  obtain ⟨z, h1, h2⟩ := h
  obtain ⟨c, h3, h4⟩ := Option.map_eq_some_iff.mp h1
  subst h4
  exact ⟨c, h3, h2⟩
/-- and, or, not as values -/
theorem jm_one {op} {T : M D} (h : JM X R ρ a T) : JM X R ρ (.BoolOp op [a] pos) T := pe_one h
theorem jm_and {Ta Tb : M D} (ha : JM X R ρ a Ta) (hb : JM X R ρ (.BoolOp .And (b :: rest) pos) Tb) : JM X R ρ (.BoolOp .And (a :: b :: rest) pos) (fun q m => Ta (fun d m1 => ∃ c, d = .bool c ∧ if c = true then Tb q m1 else q (.bool false) m1) m) := by
  refine PE.imp (pe_and ha hb) fun σ H Q ⟨G, m, q, S, t, k⟩ => ⟨G, m, _, S, t, fun v d G1 H1 m1 S1 g1 r1 q1 => ?_⟩
  obtain ⟨c, e, q1⟩ := q1
  subst e
  cases r1
  refine ⟨c, rfl, ?_⟩
  cases c with
  | true =>
    show tJ R ρ Tb σ H1 Q
    exact ⟨G1, m1, q, S1, q1, fun v b G2 H2 m2 S2 g2 r2 q2 => k v b G2 H2 m2 S2 (g1.trans S1.vh g2) r2 q2⟩
  | false =>
    show Q _ H1
    exact k _ _ G1 H1 m1 S1 g1 (.bl false) q1
theorem jm_not {T : M D} (ha : JM X R ρ a T) : JM X R ρ (.UnaryOp .Not a pos) (fun q => T fun d m => ∃ c, d = .bool c ∧ q (.bool (!c)) m) := by
  refine PE.imp (pe_not ha) fun σ H Q ⟨G, m, q, S, t, k⟩ => ⟨G, m, _, S, t, fun v d G1 H1 m1 S1 g1 r1 q1 => ?_⟩
  obtain ⟨c, e, q1⟩ := q1
  subst e
  cases r1
  exact ⟨c, rfl, k _ _ G1 H1 m1 S1 g1 (.bl _) q1⟩
def andV (oa ob : Option D) : Option D := (oa.bind asB).bind fun c => if c = true then ob else some (.bool false)
def notV (oa : Option D) : Option D := (oa.bind asB).map fun c => .bool (!c)
theorem je_one {op} {o : Option D} (h : JE X R ρ a o) : JE X R ρ (.BoolOp op [a] pos) o := jm_one h
theorem je_and {oa ob : Option D} (ha : JE X R ρ a oa) (hb : JE X R ρ (.BoolOp .And (b :: rest) pos) ob) : JE X R ρ (.BoolOp .And (a :: b :: rest) pos) (andV oa ob) := (jm_and ha hb).imp fun q m h => by
  obtain ⟨c, h1, h2⟩ := lift1 h
  obtain ⟨d, h3, h4⟩ := Option.bind_eq_some_iff.mp h1
  refine ⟨d, h3, c, asB_eq h4, ?_⟩
  cases c with
  | true => exact h2
  | false => exact lift_some' h2
theorem je_not {oa : Option D} (ha : JE X R ρ a oa) : JE X R ρ (.UnaryOp .Not a pos) (notV oa) := (jm_not ha).imp fun q m h => by
  obtain ⟨z, h1, h2⟩ := h
  obtain ⟨c, h3, h4⟩ := Option.map_eq_some_iff.mp h1
  obtain ⟨d, h5, h6⟩ := Option.bind_eq_some_iff.mp h3
  subst h4
  exact ⟨d, h5, c, asB_eq h6, h2⟩
theorem jm_if {Tc : M Bool} {Ta Tb : M D} (hc : JT X R ρ c Tc) (ha : JM X R ρ a Ta) (hb : JM X R ρ b Tb) : JM X R ρ (.IfExp c a b pos) (fun q m => Tc (fun t m1 => if t = true then Ta q m1 else Tb q m1) m) := by
  refine PE.imp (pe_ifExp hc ha hb) fun σ H Q ⟨G, m, q, S, t, k⟩ => ⟨G, m, _, S, t, fun c G1 H1 m1 S1 g1 q1 => ?_⟩
  cases c with
  | true =>
    show tJ R ρ Ta σ H1 Q
    exact ⟨G1, m1, q, S1, q1, fun v b G2 H2 m2 S2 g2 r2 q2 => k v b G2 H2 m2 S2 (g1.trans S1.vh g2) r2 q2⟩
  | false =>
    show tJ R ρ Tb σ H1 Q
    exact ⟨G1, m1, q, S1, q1, fun v b G2 H2 m2 S2 g2 r2 q2 => k v b G2 H2 m2 S2 (g1.trans S1.vh g2) r2 q2⟩
def ifO {α : Type} (oc : Option Bool) (oa ob : Option α) : Option α := oc.bind fun t => if t = true then oa else ob
theorem je_if {oc : Option Bool} {oa ob : Option D} (hc : JTE X R ρ c oc) (ha : JE X R ρ a oa) (hb : JE X R ρ b ob) : JE X R ρ (.IfExp c a b pos) (ifO oc oa ob) := (jm_if hc ha hb).imp fun q m h => by
  obtain ⟨t, h1, h2⟩ := lift1 h
  refine ⟨t, h1, ?_⟩
  cases t <;> exact h2

theorem jm_chain {op op' : CmpOp} {r r' : R2} {f f' : D → D → Option D} {Ta Tb Tc : M D} (hr : OpR X (compareOp op) r) (hr' : OpR X (compareOp op') r') (ho : OpD r f) (ho' : OpD r' f') (ha : JM X R ρ a Ta) (hb : JM X R ρ b Tb) (hc : JM X R ρ c Tc)
    (hm : lastMarks [op, op'] [b, c] = false := by with_unfolding_all rfl) : JM X R ρ (.Compare a [op, op'] [b, c] pos) (fun q m => Ta (fun x m1 => Tb (fun y m2 => ∃ t, f x y = some (.bool t) ∧ if t = true then Tc (fun z m3 => lift (f' y z) q m3) m2 else q (.bool false) m2) m1) m) := by
  refine PE.imp (pe_chain hr hr' ha hb hc hm) fun σ H Q ⟨G, m, q, S, t, k⟩ => ⟨G, m, _, S, t, fun v d G1 H1 m1 S1 g1 r1 q1 => ⟨G1, m1, _, S1, q1, fun w e G2 H2 m2 S2 g2 r2 q2 => ?_⟩⟩
  obtain ⟨t, hf, q2⟩ := q2
  refine ho G2 H2 v w d e _ _ S2.gh (r1.mono g2.gg) r2 hf fun u G3 H3 g3 s3 r3 => ?_
  obtain ⟨S3, g3'⟩ := S2.growS g3 s3
  cases r3
  refine ⟨t, rfl, ?_⟩
  cases t with
  | false =>
    show Q _ H3
    exact k _ _ G3 H3 m2 S3 ((g1.trans S1.vh g2).trans S2.vh g3') (.bl false) q2
  | true =>
    show tJ R ρ Tc σ H3 _
    refine ⟨G3, m2, _, S3, q2, fun w2 z G4 H4 m4 S4 g4 r4 q4 => ?_⟩
    obtain ⟨z2, hz, q4⟩ := q4
    refine ho' G4 H4 w w2 e z z2 Q S4.gh (r2.mono (g3.gg.trans g4.gg)) r4 hz fun u5 G5 H5 g5 s5 r5 => ?_
    obtain ⟨S5, g5'⟩ := S4.growS g5 s5
    exact k _ _ G5 H5 m4 S5 ((((g1.trans S1.vh g2).trans S2.vh g3').trans S3.vh g4).trans S4.vh g5') r5 q4
def chainO (f f' : D → D → Option D) (oa ob oc : Option D) : Option D := oa.bind fun x => ob.bind fun y => ((f x y).bind asB).bind fun t => if t = true then oc.bind fun z => f' y z else some (.bool false)
theorem je_chain {op op' : CmpOp} {r r' : R2} {f f' : D → D → Option D} {oa ob oc : Option D} (hr : OpR X (compareOp op) r) (hr' : OpR X (compareOp op') r') (ho : OpD r f) (ho' : OpD r' f') (ha : JE X R ρ a oa) (hb : JE X R ρ b ob) (hc : JE X R ρ c oc)
    (hm : lastMarks [op, op'] [b, c] = false := by with_unfolding_all rfl) : JE X R ρ (.Compare a [op, op'] [b, c] pos) (chainO f f' oa ob oc) := (jm_chain hr hr' ho ho' ha hb hc hm).imp fun q m h => by
  obtain ⟨x, h1, h2⟩ := lift1 h
  obtain ⟨y, h3, h4⟩ := lift1 h2
  obtain ⟨t, h5, h6⟩ := lift1 h4
  obtain ⟨d, h7, h8⟩ := Option.bind_eq_some_iff.mp h5
  refine ⟨x, h1, y, h3, t, by rw [h7, asB_eq h8], ?_⟩
  cases t with
  | true =>
    obtain ⟨z, h9, h10⟩ := lift1 h6
    exact ⟨z, h9, h10⟩
  | false => exact lift_some' h6
theorem jt_chain {op op' : CmpOp} {r r' : R2} {f f' : D → D → Option D} {Ta Tb Tc : M D} (hr : OpR X (compareOp op) r) (hr' : OpR X (compareOp op') r') (ho : OpD r f) (ho' : OpD r' f') (ha : JM X R ρ a Ta) (hb : JM X R ρ b Tb) (hc : JM X R ρ c Tc)
    (hm : lastMarks [op, op'] [b, c] = false := by with_unfolding_all rfl) : JT X R ρ (.Compare a [op, op'] [b, c] pos) (fun q m => Ta (fun x m1 => Tb (fun y m2 => ∃ t, f x y = some (.bool t) ∧ if t = true then Tc (fun z m3 => ∃ u, f' y z = some (.bool u) ∧ q u m3) m2 else q false m2) m1) m) := by
  refine PT.imp (pt_chain hr hr' ha hb hc hm) fun σ H Q ⟨G, m, q, S, t, k⟩ => ⟨G, m, _, S, t, fun v d G1 H1 m1 S1 g1 r1 q1 => ⟨G1, m1, _, S1, q1, fun w e G2 H2 m2 S2 g2 r2 q2 => ?_⟩⟩
  obtain ⟨t, hf, q2⟩ := q2
  refine ho G2 H2 v w d e _ _ S2.gh (r1.mono g2.gg) r2 hf fun u G3 H3 g3 s3 r3 => ?_
  obtain ⟨S3, g3'⟩ := S2.growS g3 s3
  cases r3
  refine ⟨t, rfl, ?_⟩
  cases t with
  | false => exact ⟨false, rfl, k _ G3 H3 m2 S3 ((g1.trans S1.vh g2).trans S2.vh g3') q2⟩
  | true =>
    show tJ R ρ Tc σ H3 _
    refine ⟨G3, m2, _, S3, q2, fun w2 z G4 H4 m4 S4 g4 r4 q4 => ?_⟩
    obtain ⟨u2, hz, q4⟩ := q4
    refine ho' G4 H4 w w2 e z _ _ S4.gh (r2.mono (g3.gg.trans g4.gg)) r4 hz fun u5 G5 H5 g5 s5 r5 => ?_
    obtain ⟨S5, g5'⟩ := S4.growS g5 s5
    cases r5
    exact ⟨u2, rfl, k _ G5 H5 m4 S5 ((((g1.trans S1.vh g2).trans S2.vh g3').trans S3.vh g4).trans S4.vh g5') q4⟩
theorem jte_chain {op op' : CmpOp} {r r' : R2} {f f' : D → D → Option D} {oa ob oc : Option D} (hr : OpR X (compareOp op) r) (hr' : OpR X (compareOp op') r') (ho : OpD r f) (ho' : OpD r' f') (ha : JE X R ρ a oa) (hb : JE X R ρ b ob) (hc : JE X R ρ c oc)
    (hm : lastMarks [op, op'] [b, c] = false := by with_unfolding_all rfl) : JTE X R ρ (.Compare a [op, op'] [b, c] pos) ((chainO f f' oa ob oc).bind asB) := (jt_chain hr hr' ho ho' ha hb hc hm).imp fun q m h => by
  obtain ⟨z, h0, h00⟩ := lift1 h
  obtain ⟨x, h1, h2⟩ := Option.bind_eq_some_iff.mp h0
  obtain ⟨y, h3, h4⟩ := Option.bind_eq_some_iff.mp h2
  obtain ⟨t, h5, h6⟩ := Option.bind_eq_some_iff.mp h4
  obtain ⟨d, h7, h8⟩ := Option.bind_eq_some_iff.mp h5
  obtain ⟨u, h11, h12⟩ := h00
  refine ⟨x, h1, y, h3, t, by rw [h7, asB_eq h8], ?_⟩
  cases t with
  | true =>
    obtain ⟨z2, h9, h10⟩ := Option.bind_eq_some_iff.mp h6
    exact ⟨z2, h9, u, by rw [h10, asB_eq h11], h12⟩
  | false =>
    cases h6
    cases h11
    exact h12
end
end Dl

set_option Elab.async false
set_option linter.all false
set_option autoImplicit false
set_option maxRecDepth 100000
set_option maxHeartbeats 1000000
namespace Dl
open PySem L2

structure Bx (X : Cx) (k : Nat) : Prop where
  hr : Room k X.A
  hg : X.A.guards = some []
  hc : X.calm = true
  nd : X.N.Nodup
  ps : PassesOwn (model X.prog X.w) X.A X.env X.xe
theorem Bx.blk {X : Cx} {k : Nat} (B : Bx X k) (s : Shared) (H : Hp) (scope : Scope) (cenv : Env) (fp : List Addr) : Bx (X.blk s H scope cenv fp) k := ⟨B.hr, B.hg, B.hc, B.nd, PassesOwn.never⟩
theorem Bx.u64 {X : Cx} {k : Nat} (B : Bx X k) : X.A.units + 64 < cLine := B.hr.units
theorem Bx.u0 {X : Cx} {k : Nat} (B : Bx X k) : X.A.units < cLine := B.hr.units0
theorem Bx.u65 {X : Cx} {k : Nat} (B : Bx X k) : X.A.units + 65 < cLine := by have := B.hr.un; omega
theorem Bx.mono {X : Cx} {j k : Nat} (B : Bx X k) (h : j ≤ k) : Bx X j := ⟨B.hr.mono h, B.hg, B.hc, B.nd, B.ps⟩

section
variable {X : Cx} {R : Res} {ρ : List Cell} {e a b c : Expr} {es : List Expr} {pos : Pos} {n : Nat}
theorem ja_nil : JA X R ρ [] 0 (fun q m => q [] m) := PA.imp pa_nil fun _ H _ ⟨G, m, _, S, t, k⟩ => k _ _ G H m S (Grow.refl _ _ _) .nil rfl t
theorem ja_cons {T : M D} {Ts : M (List D)} (ha : JM X R ρ e T) (hs : JA X R ρ es n Ts) (hst : starEach (e :: es) X.env = (false, eval e X.env) :: starEach es X.env := by rfl) :
    JA X R ρ (e :: es) (n + 1) (fun q m => T (fun d m1 => Ts (fun ds m2 => q (d :: ds) m2) m1) m) := by
  refine PA.imp (pa_cons ha hs hst) fun σ H Q ⟨G, m, q, S, t, k⟩ => ⟨G, m, _, S, t, fun v d G1 H1 m1 S1 g1 r1 q1 => ⟨G1, m1, _, S1, q1, fun vs ds G2 H2 m2 S2 g2 r2 l2 q2 => ?_⟩⟩
  exact k _ _ G2 H2 m2 S2 (g1.trans S1.vh g2) (.cons (r1.mono g2.gg) r2) (by simp [l2]) q2
abbrev JAE (X : Cx) (R : Res) (ρ : List Cell) (es : List Expr) (n : Nat) (o : Option (List D)) : Prop := JA X R ρ es n (lift o)
def consO (oa : Option D) (os : Option (List D)) : Option (List D) := oa.bind fun x => os.bind fun xs => some (x :: xs)
theorem jae_nil : JAE X R ρ [] 0 (some []) := ja_nil.imp fun _ _ => lift_some'
theorem jae_cons {oa : Option D} {os : Option (List D)} (ha : JE X R ρ e oa) (hs : JAE X R ρ es n os) (hst : starEach (e :: es) X.env = (false, eval e X.env) :: starEach es X.env := by rfl) : JAE X R ρ (e :: es) (n + 1) (consO oa os) :=
  (ja_cons ha hs hst).imp fun q m h => by
    obtain ⟨x, h1, h2⟩ := lift1 h
    obtain ⟨xs, h3, h4⟩ := lift1 h2
    exact ⟨x, h1, xs, h3, lift_some' h4⟩
theorem jm_tup {Ts : M (List D)} {x1} (h : JA X R ρ es n Ts) (hn : n ≤ 1000) : JM X R ρ (.Tuple es x1 pos) (fun q => Ts fun ds => q (.tuple ds)) := by
  refine PE.imp (pe_tupF h) fun σ H Q ⟨G, m, q, S, t, k⟩ => ⟨G, m, _, S, t, fun vs ds G1 H1 m1 S1 g1 r1 l1 q1 => ⟨?_, fun p o ho hp => ?_⟩⟩
  · rw [r1.length, l1]; exact Nat.le_of_lt (small1000 hn)
  · obtain ⟨g2, s2⟩ := grow_new S1.gh hp (.frz o (.tup vs))
    obtain ⟨S2, g2'⟩ := S1.growS g2 s2
    exact k _ _ _ _ m1 S2 (g1.trans S1.vh g2') (.tup (Tu.new ho) (r1.mono g2.gg)) q1
theorem jl_lst {Ts : M (List D)} (h : JA X R ρ es n Ts) (hn : n ≤ 1000) : JL X R ρ (.List es pos) Ts := by
  refine PE.imp (pe_lst h) fun σ H Q ⟨G, m, q, S, t, k⟩ => ⟨G, m, _, S, t, fun vs ds G1 H1 m1 S1 g1 r1 l1 q1 => ⟨?_, fun p hp => ?_⟩⟩
  · rw [r1.length, l1]; exact Nat.le_of_lt (small1000 hn)
  · obtain ⟨g2, s2⟩ := grow_own S1.gh hp (.lst vs)
    obtain ⟨S2, g2'⟩ := S1.growS g2 s2
    have hp0 : H p = none := by
      cases e : H p with
      | none => rfl
      | some o =>
        by_cases v : R.vol p
        · exact absurd hp (S1.vh p v)
        · rw [g1.hh p o v e] at hp; cases hp
    exact k p vs ds G1 _ m1 S2 (g1.trans S1.vh g2') hp0 (S1.gh.free hp) upd_same r1 q1
theorem je_tup {os : Option (List D)} {x1} (h : JAE X R ρ es n os) (hn : n ≤ 1000 := by decide) : JE X R ρ (.Tuple es x1 pos) (os.map PyData.tuple) := (jm_tup h hn).imp fun q m ⟨z, h1, h2⟩ => by
  obtain ⟨ds, h3, h4⟩ := Option.map_eq_some_iff.mp h1
  subst h4
  exact ⟨ds, h3, h2⟩
theorem jle_lst {os : Option (List D)} (h : JAE X R ρ es n os) (hn : n ≤ 1000 := by decide) : JLE X R ρ (.List es pos) os := jl_lst h hn
theorem JLE.je {o : Option (List D)} (h : JLE X R ρ e o) : JE X R ρ e (o.map PyData.list) := (JL.jm h).imp fun q m ⟨z, h1, h2⟩ => by
  obtain ⟨ds, h3, h4⟩ := Option.map_eq_some_iff.mp h1
  subst h4
  exact ⟨ds, h3, h2⟩

def CallD (r : List V → Hp → VK → Prop) (F : List D → Option D) : Prop := ∀ (G H : Hp) (vs : List V) (ds : List D) (z : D) (Q : VK), Same G H → RpL G vs ds → F ds = some z →
  (∀ v G' H', Grow (fun _ => False) G H G' H' → Same G' H' → Rp G' v z → Q v H') → r vs H Q
/-- .. a new list -/
def CallDL (r : List V → Hp → VK → Prop) (F : List D → Option (List D)) : Prop := ∀ (G H : Hp) (vs : List V) (ds : List D) (z : List D) (Q : VK), Same G H → RpL G vs ds → F ds = some z →
  (∀ p ws G' H', Grow (fun _ => False) G H G' H' → Same G' H' → H p = none → G' p = none → H' p = some (.lst ws) → RpL G' ws z → Q (.ref p) H') → r vs H Q
theorem call_read {r : List V → Hp → VK → Prop} {F : List D → Option D} {Ts : M (List D)} (hF : CallD r F) (σ : L2.St) (H : Hp) (Q : VK) (h : tJ R ρ (fun q => Ts fun ds => lift (F ds) q) σ H Q) : tCB r (tAs R ρ n Ts) σ H Q := by
  obtain ⟨G, m, q, S, t, k⟩ := h
  refine ⟨G, m, _, S, t, fun vs ds G1 H1 m1 S1 g1 r1 l1 q1 => ?_⟩
  obtain ⟨z, hz, q1⟩ := q1
  refine hF G1 H1 vs ds z Q S1.gh r1 hz fun v G2 H2 g2 s2 r2 => ?_
  obtain ⟨S2, g2'⟩ := S1.growS g2 s2
  exact k v z G2 H2 m1 S2 (g1.trans S1.vh g2') r2 q1
theorem call_readL {r : List V → Hp → VK → Prop} {F : List D → Option (List D)} {Ts : M (List D)} (hF : CallDL r F) (σ : L2.St) (H : Hp) (Q : VK) (h : tL R ρ (fun q => Ts fun ds => lift (F ds) q) σ H Q) : tCB r (tAs R ρ n Ts) σ H Q := by
  obtain ⟨G, m, q, S, t, k⟩ := h
  refine ⟨G, m, _, S, t, fun vs ds G1 H1 m1 S1 g1 r1 l1 q1 => ?_⟩
  obtain ⟨z, hz, q1⟩ := q1
  refine hF G1 H1 vs ds z Q S1.gh r1 hz fun p ws G2 H2 g2 s2 hp gp hp2 r2 => ?_
  obtain ⟨S2, g2'⟩ := S1.growS g2 s2
  exact k p ws z G2 H2 m1 S2 (g1.trans S1.vh g2') (free_of g1 S1.vh hp) gp hp2 r2 q1
variable {x : Str} {id T : String} {p : Pos} {r : List V → Hp → VK → Prop}
theorem jm_callB {F : List D → Option D} {Ts : M (List D)} (hr : CallR X (.builtin id) r) (hF : CallD r F) (hm : X.mg x = none) (hv : bootBuiltins x = some (.builtin id)) (ha : JA X R ρ (e :: es) n Ts) (hg : Gl X x := by rfl) (hn : x ≠ "__name__" := by decide) (hdb : (x == ("__debug__" : Str)) = false := by decide)
    (he : starEach (e :: es) X.env = (false, eval e X.env) :: starEach es X.env := by rfl) (hpl : (backTo pos (starEach es X.env)).any (·.1) = false := by rfl) : JM X R ρ (.Call (.Name x p) (e :: es) [] pos) (fun q => Ts fun ds => lift (F ds) q) :=
  PE.imp (pe_callB hr hg hm hv ha hn hdb he hpl) (call_read hF)
theorem jm_callTy {F : List D → Option D} {Ts : M (List D)} (hr : CallR X (.type T) r) (hF : CallD r F) (hm : X.mg x = none) (hv : bootBuiltins x = some (.type T)) (ha : JA X R ρ (e :: es) n Ts) (hg : Gl X x := by rfl) (hn : x ≠ "__name__" := by decide) (hdb : (x == ("__debug__" : Str)) = false := by decide)
    (he : starEach (e :: es) X.env = (false, eval e X.env) :: starEach es X.env := by rfl) (hpl : (backTo pos (starEach es X.env)).any (·.1) = false := by rfl) : JM X R ρ (.Call (.Name x p) (e :: es) [] pos) (fun q => Ts fun ds => lift (F ds) q) :=
  PE.imp (pe_callTy hr hg hm hv ha hn hdb he hpl) (call_read hF)
theorem jl_callTy {F : List D → Option (List D)} {Ts : M (List D)} (hr : CallR X (.type T) r) (hF : CallDL r F) (hm : X.mg x = none) (hv : bootBuiltins x = some (.type T)) (ha : JA X R ρ (e :: es) n Ts) (hg : Gl X x := by rfl) (hn : x ≠ "__name__" := by decide) (hdb : (x == ("__debug__" : Str)) = false := by decide)
    (he : starEach (e :: es) X.env = (false, eval e X.env) :: starEach es X.env := by rfl) (hpl : (backTo pos (starEach es X.env)).any (·.1) = false := by rfl) : JL X R ρ (.Call (.Name x p) (e :: es) [] pos) (fun q => Ts fun ds => lift (F ds) q) :=
  PE.imp (pe_callTy hr hg hm hv ha hn hdb he hpl) (call_readL hF)
end
/-- one argument, two -/
def F1 {β : Type} (f : D → Option β) : List D → Option β
  | [x] => f x
  | _ => none
def F2 {β : Type} (f : D → D → Option β) : List D → Option β
  | [x, y] => f x y
  | _ => none
abbrev C1 {β : Type} (f : D → Option β) (o : Option D) : Option β := o.bind f
abbrev C2 {β : Type} (f : D → D → Option β) (o1 o2 : Option D) : Option β := o1.bind fun x => o2.bind fun y => f x y
theorem c1_eq {β : Type} (f : D → Option β) (o1 : Option D) : (consO o1 (some [])).bind (F1 f) = C1 f o1 := by cases o1 <;> rfl
theorem c2_eq {β : Type} (f : D → D → Option β) (o1 o2 : Option D) : (consO o1 (consO o2 (some []))).bind (F2 f) = C2 f o1 o2 := by cases o1 <;> cases o2 <;> rfl
theorem JM.eq {X : Cx} {R : Res} {ρ : List Cell} {e : Expr} {o o' : Option D} (h : JE X R ρ e o) (k : o = o') : JE X R ρ e o' := by rw [← k]; exact h
theorem JL.eq {X : Cx} {R : Res} {ρ : List Cell} {e : Expr} {o o' : Option (List D)} (h : JLE X R ρ e o) (k : o = o') : JLE X R ρ e o' := by rw [← k]; exact h
theorem JT.eq {X : Cx} {R : Res} {ρ : List Cell} {e : Expr} {o o' : Option Bool} (h : JTE X R ρ e o) (k : o = o') : JTE X R ρ e o' := by rw [← k]; exact h
/-- a meaning of its arguments, in the pure form -/
theorem liftF {β : Type} {F : List D → Option β} {os : Option (List D)} {q : β → Nat → Prop} {m : Nat} (h : lift (os.bind F) q m) : lift os (fun ds => lift (F ds) q) m := lift1 h

def dLen : D → Option D
  | .list xs => some (.int xs.length)
  | .tuple xs => some (.int xs.length)
  | _ => none
theorem cd_len {K : PySem.W.Frag} : CallD (fun xs H Q => ∃ p ys, xs = [.ref p] ∧ (SqL K H p ys ∨ SqT K H p ys) ∧ Q (.int ys.length) H) (F1 dLen) := by
  intro G H vs ds z Q gh r hF k
  cases r with
  | nil => cases hF
  | cons a b =>
    cases b with
    | cons _ _ => cases hF
    | nil =>
      cases a with
      | @lst p vs ds hp r =>
        cases hF
        refine ⟨p, vs, rfl, .inl (SqL.of (gh _ _ hp)), k _ G H (Grow.refl _ _ _) gh ?_⟩
        rw [r.length]; exact .int _
      | @tup p vs ds hp r =>
        cases hF
        refine ⟨p, vs, rfl, .inr ((hp.sqm gh)), k _ G H (Grow.refl _ _ _) gh ?_⟩
        rw [r.length]; exact .int _
      | _ => cases hF
def dInt : D → Option D
  | .int i => some (.int i)
  | .bool b => some (.int (if b then 1 else 0))
  | _ => none
theorem cd_int : CallD (fun xs H Q => (∃ i, xs = [.int i] ∧ Q (.int i) H) ∨ ∃ k, xs = [.bl k] ∧ Q (.int (if k then 1 else 0)) H) (F1 dInt) := by
  intro G H vs ds z Q gh r hF k
  cases r with
  | nil => cases hF
  | cons a b =>
    cases b with
    | cons _ _ => cases hF
    | nil =>
      cases a with
      | int i => cases hF; exact .inl ⟨i, rfl, k _ G H (Grow.refl _ _ _) gh (.int _)⟩
      | bl i => cases hF; exact .inr ⟨i, rfl, k _ G H (Grow.refl _ _ _) gh (.int _)⟩
      | _ => cases hF
def dMax2 : D → D → Option D
  | .int i, .int j => some (.int (if j > i then j else i))
  | _, _ => none
def dMin2 : D → D → Option D
  | .int i, .int j => some (.int (if j < i then j else i))
  | _, _ => none
theorem cd_2i {g : Int → Int → Int} {f : D → D → Option D} (h0 : ∀ i j, f (.int i) (.int j) = some (.int (g i j))) (h1 : ∀ d e z, f d e = some z → ∃ i j, d = .int i ∧ e = .int j) : CallD (fun xs H Q => ∃ i j, xs = [.int i, .int j] ∧ Q (.int (g i j)) H) (F2 f) := by
  intro G H vs ds z Q gh r hF k
  cases r with
  | nil => cases hF
  | cons a b =>
    cases b with
    | nil => cases hF
    | cons b c =>
      cases c with
      | cons _ _ => cases hF
      | nil =>
        obtain ⟨i, j, rfl, rfl⟩ := h1 _ _ _ hF
        rw [show F2 f [.int i, .int j] = f (.int i) (.int j) from rfl, h0] at hF
        cases hF
        cases a
        cases b
        exact ⟨i, j, rfl, k _ G H (Grow.refl _ _ _) gh (.int _)⟩
theorem dMax2_is (d e z : D) (h : dMax2 d e = some z) : ∃ i j, d = .int i ∧ e = .int j := by
  cases d <;> cases e <;> first | (cases h; done) | exact ⟨_, _, rfl, rfl⟩
theorem dMin2_is (d e z : D) (h : dMin2 d e = some z) : ∃ i j, d = .int i ∧ e = .int j := by
  cases d <;> cases e <;> first | (cases h; done) | exact ⟨_, _, rfl, rfl⟩
theorem cd_max2 : CallD (fun xs H Q => ∃ i j, xs = [.int i, .int j] ∧ Q (.int (if j > i then j else i)) H) (F2 dMax2) := cd_2i (fun _ _ => rfl) dMax2_is
theorem cd_min2 : CallD (fun xs H Q => ∃ i j, xs = [.int i, .int j] ∧ Q (.int (if j < i then j else i)) H) (F2 dMin2) := cd_2i (fun _ _ => rfl) dMin2_is
/-- tuple(..) of a list or a tuple, list(..) -/
def dTup : D → Option D
  | .list xs => some (.tuple xs)
  | .tuple xs => some (.tuple xs)
  | _ => none
theorem cd_tuple {K : PySem.W.Frag} : CallD (rTupF K) (F1 dTup) := by
  intro G H vs ds z Q gh r hF k
  cases r with
  | nil => cases hF
  | cons a b =>
    cases b with
    | cons _ _ => cases hF
    | nil =>
      cases a with
      | @lst p vs ds hp r =>
        cases hF
        refine ⟨p, vs, rfl, .inl ⟨SqL.of (gh _ _ hp), fun l o ho hl => ?_⟩⟩
        obtain ⟨g, s⟩ := grow_new gh hl (.frz o (.tup vs))
        exact k _ _ _ g s (.tup (Tu.new ho) (r.mono g.gg))
      | @tup p vs ds hp r =>
        cases hF
        exact ⟨p, vs, rfl, .inr ⟨(hp.sqm gh), k _ G H (Grow.refl _ _ _) gh (.tup hp r)⟩⟩
      | _ => cases hF
def dItems : D → Option (List D)
  | .list xs => some xs
  | .tuple xs => some xs
  | _ => none
theorem cd_list {K : PySem.W.Frag} : CallDL (fun xs H Q => ∃ p ys, xs = [.ref p] ∧ (SqL K H p ys ∨ SqT K H p ys) ∧ ∀ l, H l = none → Q (.ref l) (upd H l (.lst ys))) (F1 dItems) := by
  intro G H vs ds z Q gh r hF k
  cases r with
  | nil => cases hF
  | cons a b =>
    cases b with
    | cons _ _ => cases hF
    | nil =>
      cases a with
      | @lst p vs ds hp r =>
        cases hF
        refine ⟨p, vs, rfl, .inl (SqL.of (gh _ _ hp)), fun l hl => ?_⟩
        obtain ⟨g, s⟩ := grow_own gh hl (.lst vs)
        exact k l vs G _ g s hl (gh.free hl) upd_same r
      | @tup p vs ds hp r =>
        cases hF
        refine ⟨p, vs, rfl, .inr ((hp.sqm gh)), fun l hl => ?_⟩
        obtain ⟨g, s⟩ := grow_own gh hl (.lst vs)
        exact k l vs G _ g s hl (gh.free hl) upd_same r
      | _ => cases hF
/-- all(..), any(..), sum(..) of a list -/
def blsOf : List D → Option (List Bool)
  | [] => some []
  | .bool b :: r => (blsOf r).map (b :: ·)
  | _ => none
theorem blsOf_eq : ∀ {ds : List D} {bs : List Bool}, blsOf ds = some bs → ds = bs.map PyData.bool
  | [], ns, h => by cases h; rfl
  | .bool i :: r, ns, h => by
    simp only [blsOf, Option.map_eq_some_iff] at h
    obtain ⟨k, h1, rfl⟩ := h
    rw [blsOf_eq h1]; rfl
  | .none :: _, _, h => by cases h
  | .int _ :: _, _, h => by cases h
  | .str _ :: _, _, h => by cases h
  | .list _ :: _, _, h => by cases h
  | .tuple _ :: _, _, h => by cases h
  | .dict _ :: _, _, h => by cases h
theorem blsOf_map : ∀ (bs : List Bool), blsOf (bs.map PyData.bool) = some bs
  | [] => rfl
  | n :: r => by simp [blsOf, blsOf_map r]
theorem RpL.bls {G : Hp} : ∀ {ns : List Bool} {vs : List V}, RpL G vs (ns.map PyData.bool) → vs = ns.map V.bl
  | [], _, h => by cases h; rfl
  | n :: ns, _, h => by
    cases h with
    | cons a b => cases a; rw [RpL.bls b]; rfl
def dAny : D → Option D
  | .list xs => (blsOf xs).map fun bs => .bool (bs.any id)
  | _ => none
def dAll : D → Option D
  | .list xs => (blsOf xs).map fun bs => .bool (bs.all id)
  | _ => none
theorem cd_any {K : PySem.W.Frag} : CallD (rAny K) (F1 dAny) := by
  intro G H vs ds z Q gh r hF k
  cases r with
  | nil => cases hF
  | cons a b =>
    cases b with
    | cons _ _ => cases hF
    | nil =>
      cases a with
      | @lst p vs ds hp r =>
        obtain ⟨bs, h1, rfl⟩ := Option.map_eq_some_iff.mp (show (blsOf ds).map _ = some z from hF)
        have e := blsOf_eq h1
        subst e
        have e := r.bls
        subst e
        exact ⟨p, bs, rfl, SqL.of (gh _ _ hp), k _ G H (Grow.refl _ _ _) gh (.bl _)⟩
      | _ => cases hF
theorem cd_all {K : PySem.W.Frag} : CallD (rAll K) (F1 dAll) := by
  intro G H vs ds z Q gh r hF k
  cases r with
  | nil => cases hF
  | cons a b =>
    cases b with
    | cons _ _ => cases hF
    | nil =>
      cases a with
      | @lst p vs ds hp r =>
        obtain ⟨bs, h1, rfl⟩ := Option.map_eq_some_iff.mp (show (blsOf ds).map _ = some z from hF)
        have e := blsOf_eq h1
        subst e
        have e := r.bls
        subst e
        exact ⟨p, bs, rfl, SqL.of (gh _ _ hp), k _ G H (Grow.refl _ _ _) gh (.bl _)⟩
      | _ => cases hF

def tyOf : D → String
  | .none => "NoneType" | .bool _ => "bool" | .int _ => "int" | .str _ => "str" | .list _ => "list" | .tuple _ => "tuple" | .dict _ => "dict"
def isTyS (c t : String) : Bool := t == c || (c == "int" && t == "bool")
def isTy (c : String) (d : D) : Bool := isTyS c (tyOf d)
theorem kit_tab : (["NoneType", "bool", "int", "str", "list", "tuple", "dict"].all fun t => ["int", "bool", "str", "list", "tuple", "dict"].all fun c => kitB t c == some (isTyS c t)) = true := by decide +kernel
theorem tyOf_mem (d : D) : tyOf d ∈ ["NoneType", "bool", "int", "str", "list", "tuple", "dict"] := by cases d <;> simp [tyOf]
def clsOk (c : String) : Bool := c == "int" || c == "bool" || c == "str" || c == "list" || c == "tuple" || c == "dict"
theorem kit_d {K : PySem.W.Frag} (d : D) {c : String} (h : clsOk c = true) : PySem.W.kitOne K (.type (tyOf d)) (.type c) = some (isTy c d) := by
  have hc : c ∈ ["int", "bool", "str", "list", "tuple", "dict"] := by
    simp only [clsOk, Bool.or_eq_true, beq_iff_eq] at h
    simp only [List.mem_cons, List.not_mem_nil, or_false]
    rcases h with ((((h | h) | h) | h) | h) | h <;> simp [h]
  exact kit_ty (beq_iff_eq.mp (List.all_eq_true.mp (List.all_eq_true.mp kit_tab _ (tyOf_mem d)) _ hc))
/-- a value's type, a dict of ours too -/
def TyD (K : PySem.W.Frag) (H : Hp) (v : V) (t : Value) : Prop := TyX K H v t ∨ ∃ p L, v = .ref p ∧ t = .type "dict" ∧ H p = some (DictNO p L)
theorem kit_ofD {X : Cx} {pins : List (Addr × Obj)} {σ : L2.St} {H : Hp} {s : Shared} {x : V} {u t : Value} (I : Inv X pins σ H s) (rx : RelV x u) (ty : TyD X.K H x t) : ∃ P : Heap → Prop, PySem.W.KitX X.K u t P ∧ P s.heap ∧ u ≠ .builtin "__main__.__loader__#opaque" := by
  rcases ty with ty | ⟨p, L, rfl, rfl, hp⟩
  · exact kit_of I rx ty
  · cases (show u = Value.ref p from rx)
    obtain ⟨o, es, ep, xs, h1, h2, _⟩ := (I.hok p _ hp).1.ob
    exact ⟨_, PySem.W.kitx_dict, ⟨o, h1, h2.1⟩, fun z => nomatch z⟩
def rIsiD (K : PySem.W.Frag) : List V → Hp → VK → Prop := fun xs H Q => ∃ (x c : V) (t u : Value) (b : Bool), xs = [x, c] ∧ ClsV c u ∧ TyD K H x t ∧ PySem.W.kitOne K t u = some b ∧ Q (.bl b) H
def rIsiDT (K : PySem.W.Frag) : List V → Hp → VK → Prop := fun xs H Q => ∃ (x : V) (tp : Addr) (cs : List V) (t : Value) (us : List Value) (b : Bool), xs = [x, .ref tp] ∧ H tp = some (.tup cs) ∧ Paired ClsV cs us ∧ TyD K H x t ∧ PySem.W.kitAny K t us = some b ∧ Q (.bl b) H
theorem call_isiD {X : Cx} : CallR X (.builtin "isinstance") (rIsiD X.K) := by
  intro pins s σ H xs us Q I r h
  obtain ⟨x, c, t, u, b, rfl, k, ty, e, q⟩ := h
  obtain ⟨u1, u2, rfl, r1, r2⟩ := vals2 r
  cases k.eq r2
  obtain ⟨P, Z, p, hx⟩ := kit_ofD I r1 ty
  exact PySem.W.kia_one Z I.kIn p e hx fun tk => ⟨.bl b, H, I.tok tk, rfl, q⟩
theorem call_isiDT {X : Cx} : CallR X (.builtin "isinstance") (rIsiDT X.K) := by
  intro pins s σ H xs us Q I r h
  obtain ⟨x, tp, cs, t, ws, b, rfl, hT, k, ty, e, q⟩ := h
  obtain ⟨u1, u2, rfl, r1, r2⟩ := vals2 r
  cases (show u2 = Value.ref tp from r2)
  obtain ⟨P, Z, p, hx⟩ := kit_ofD I r1 ty
  obtain ⟨_, its, rv, o, h1, h2, n, h3⟩ := (show ObjOk X.prog X.w H s.heap tp (.tup cs) from I.hok tp _ hT)
  cases ClsV.all k rv
  obtain ⟨oc, od, dt, sl⟩ := o
  simp only at h2 h3
  subst h2 h3
  exact PySem.W.kia_tup Z I.kIn p h1 e hx fun tk => ⟨.bl b, H, I.tok tk, rfl, q⟩
theorem tyx_of {K : PySem.W.Frag} {G H : Hp} {v : V} {d : D} (gh : Same G H) (r : Rp G v d) : TyD K H v (.type (tyOf d)) := by
  cases r with
  | non => exact .inl (.base .non)
  | bl b => exact .inl (.base (.bl b))
  | int i => exact .inl (.base (.int i))
  | str z => exact .inl (.base (.str z))
  | lst h _ => exact .inl (.base (.lst (gh _ _ h)))
  | tup h _ =>
    obtain ⟨o, _, h⟩ := h
    exact .inl (.fTuple (gh _ _ h))
  | dic h _ _ _ => exact .inr ⟨_, _, rfl, rfl, gh _ _ h⟩
  | dik h _ _ _ => exact .inl (.base (.dK (gh _ _ h)))
section
variable {X : Cx} {R : Res} {ρ : List Cell} {e a b c : Expr} {pos p p2 p3 : Pos} {T : M D} {c1 c2 : Str} {n1 n2 : String}
theorem jm_isi (ha : JM X R ρ a T) (hm : X.mg "isinstance" = none) (hm1 : X.mg c1 = none) (hv1 : bootBuiltins c1 = some (.type n1)) (hc : clsOk n1 = true) (hg : Gl X "isinstance" := by rfl) (hg1 : Gl X c1 := by rfl) (hn1 : c1 ≠ "__name__" := by decide) (hd1 : (c1 == ("__debug__" : Str)) = false := by decide)
    (hs : starEach [a, .Name c1 p2] X.env = (false, eval a X.env) :: starEach [.Name c1 p2] X.env := by rfl) (hs2 : starEach [.Name c1 p2] X.env = (false, eval (.Name c1 p2) X.env) :: starEach [] X.env := by rfl) (hpl : (backTo pos (starEach [.Name c1 p2] X.env)).any (·.1) = false := by rfl) :
    JM X R ρ (.Call (.Name "isinstance" p) [a, .Name c1 p2] [] pos) (fun q => T fun d => q (.bool (isTy n1 d))) := by
  refine PE.imp (pe_callB call_isiD hg hm (by decide +kernel) (pa_cons ha (pa_cons (pe_bltn (v := .ty n1) hg1 hm1 hv1 rfl hn1 hd1) pa_nil hs2) hs) (by decide) (by decide) hs hpl) fun σ H Q ⟨G, m, q, S, t, k⟩ => ⟨G, m, _, S, t, fun v d G1 H1 m1 S1 g1 r1 q1 => ?_⟩
  exact ⟨v, .ty n1, .type (tyOf d), .type n1, _, rfl, .ty n1, tyx_of S1.gh r1, kit_d d hc, k _ _ G1 H1 m1 S1 g1 (.bl _) q1⟩
theorem jm_isi2 (ha : JM X R ρ a T) (hm : X.mg "isinstance" = none) (hm1 : X.mg c1 = none) (hv1 : bootBuiltins c1 = some (.type n1)) (hc : clsOk n1 = true) (hm2 : X.mg c2 = none) (hv2 : bootBuiltins c2 = some (.type n2)) (hc2 : clsOk n2 = true) (hg : Gl X "isinstance" := by rfl)
    (hg1 : Gl X c1 := by rfl) (hn1 : c1 ≠ "__name__" := by decide) (hd1 : (c1 == ("__debug__" : Str)) = false := by decide) (hg2 : Gl X c2 := by rfl) (hn2 : c2 ≠ "__name__" := by decide) (hd2 : (c2 == ("__debug__" : Str)) = false := by decide) {x1 : Nat} {p4 : Pos}
    (hs : starEach [a, .Tuple [.Name c1 p2, .Name c2 p3] x1 p4] X.env = (false, eval a X.env) :: starEach [.Tuple [.Name c1 p2, .Name c2 p3] x1 p4] X.env := by rfl) (hs2 : starEach [.Tuple [.Name c1 p2, .Name c2 p3] x1 p4] X.env = (false, eval (.Tuple [.Name c1 p2, .Name c2 p3] x1 p4) X.env) :: starEach [] X.env := by rfl)
    (hs3 : starEach [.Name c1 p2, .Name c2 p3] X.env = (false, eval (.Name c1 p2) X.env) :: starEach [.Name c2 p3] X.env := by rfl) (hs4 : starEach [.Name c2 p3] X.env = (false, eval (.Name c2 p3) X.env) :: starEach [] X.env := by rfl)
    (hpl : (backTo pos (starEach [.Tuple [.Name c1 p2, .Name c2 p3] x1 p4] X.env)).any (·.1) = false := by rfl) :
    JM X R ρ (.Call (.Name "isinstance" p) [a, .Tuple [.Name c1 p2, .Name c2 p3] x1 p4] [] pos) (fun q => T fun d => q (.bool (isTy n1 d || isTy n2 d))) := by
  refine PE.imp (pe_callB call_isiDT hg hm (by decide +kernel) (pa_cons ha (pa_cons (pe_tup (pa_cons (pe_bltn (v := .ty n1) hg1 hm1 hv1 rfl hn1 hd1) (pa_cons (pe_bltn (v := .ty n2) hg2 hm2 hv2 rfl hn2 hd2) pa_nil hs4) hs3)) pa_nil hs2) hs) (by decide) (by decide) hs hpl)
    fun σ H Q ⟨G, m, q, S, t, k⟩ => ⟨G, m, _, S, t, fun v d G1 H1 m1 S1 g1 r1 q1 => ⟨(by show 2 ≤ sizeLine; decide), fun tp htp => ?_⟩⟩
  obtain ⟨g2, s2⟩ := grow_new S1.gh htp (.tup [.ty n1, .ty n2])
  obtain ⟨S2, g2'⟩ := S1.growS g2 s2
  refine ⟨v, tp, _, .type (tyOf d), [.type n1, .type n2], _, rfl, upd_same, .cons (.ty n1) (.cons (.ty n2) .nil), tyx_of S2.gh (r1.mono g2.gg), ?_, k _ _ _ _ m1 S2 (g1.trans S1.vh g2') (.bl _) q1⟩
  refine kitAny_cons (kit_d d hc) (fun h1 => kitAny_cons (kit_d d hc2) (fun h2 => ?_) fun h2 => ?_) fun h1 => ?_
  · rw [kitAny_nil, h1, h2]; rfl
  · rw [h1, h2]; rfl
  · rw [h1]; rfl
theorem je_isi {o : Option D} (ha : JE X R ρ a o) (hm : X.mg "isinstance" = none) (hm1 : X.mg c1 = none) (hv1 : bootBuiltins c1 = some (.type n1)) (hc : clsOk n1 = true) (hg : Gl X "isinstance" := by rfl) (hg1 : Gl X c1 := by rfl) (hn1 : c1 ≠ "__name__" := by decide) (hd1 : (c1 == ("__debug__" : Str)) = false := by decide)
    (hs : starEach [a, .Name c1 p2] X.env = (false, eval a X.env) :: starEach [.Name c1 p2] X.env := by rfl) (hs2 : starEach [.Name c1 p2] X.env = (false, eval (.Name c1 p2) X.env) :: starEach [] X.env := by rfl) (hpl : (backTo pos (starEach [.Name c1 p2] X.env)).any (·.1) = false := by rfl) :
    JE X R ρ (.Call (.Name "isinstance" p) [a, .Name c1 p2] [] pos) (o.map fun d => .bool (isTy n1 d)) := (jm_isi ha hm hm1 hv1 hc hg hg1 hn1 hd1 hs hs2 hpl).imp fun q m ⟨z, h1, h2⟩ => by
  obtain ⟨d, h3, h4⟩ := Option.map_eq_some_iff.mp h1
  subst h4
  exact ⟨d, h3, h2⟩
theorem je_isi2 {o : Option D} (ha : JE X R ρ a o) (hm : X.mg "isinstance" = none) (hm1 : X.mg c1 = none) (hv1 : bootBuiltins c1 = some (.type n1)) (hc : clsOk n1 = true) (hm2 : X.mg c2 = none) (hv2 : bootBuiltins c2 = some (.type n2)) (hc2 : clsOk n2 = true) (hg : Gl X "isinstance" := by rfl)
    (hg1 : Gl X c1 := by rfl) (hn1 : c1 ≠ "__name__" := by decide) (hd1 : (c1 == ("__debug__" : Str)) = false := by decide) (hg2 : Gl X c2 := by rfl) (hn2 : c2 ≠ "__name__" := by decide) (hd2 : (c2 == ("__debug__" : Str)) = false := by decide) {x1 : Nat} {p4 : Pos}
    (hs : starEach [a, .Tuple [.Name c1 p2, .Name c2 p3] x1 p4] X.env = (false, eval a X.env) :: starEach [.Tuple [.Name c1 p2, .Name c2 p3] x1 p4] X.env := by rfl) (hs2 : starEach [.Tuple [.Name c1 p2, .Name c2 p3] x1 p4] X.env = (false, eval (.Tuple [.Name c1 p2, .Name c2 p3] x1 p4) X.env) :: starEach [] X.env := by rfl)
    (hs3 : starEach [.Name c1 p2, .Name c2 p3] X.env = (false, eval (.Name c1 p2) X.env) :: starEach [.Name c2 p3] X.env := by rfl) (hs4 : starEach [.Name c2 p3] X.env = (false, eval (.Name c2 p3) X.env) :: starEach [] X.env := by rfl)
    (hpl : (backTo pos (starEach [.Tuple [.Name c1 p2, .Name c2 p3] x1 p4] X.env)).any (·.1) = false := by rfl) :
    JE X R ρ (.Call (.Name "isinstance" p) [a, .Tuple [.Name c1 p2, .Name c2 p3] x1 p4] [] pos) (o.map fun d => .bool (isTy n1 d || isTy n2 d)) := (jm_isi2 ha hm hm1 hv1 hc hm2 hv2 hc2 hg hg1 hn1 hd1 hg2 hn2 hd2 hs hs2 hs3 hs4 hpl).imp fun q m ⟨z, h1, h2⟩ => by
  obtain ⟨d, h3, h4⟩ := Option.map_eq_some_iff.mp h1
  subst h4
  exact ⟨d, h3, h2⟩
end
end Dl

set_option Elab.async false
set_option linter.all false
set_option autoImplicit false
set_option maxRecDepth 100000
set_option maxHeartbeats 1000000
namespace Dl
open PySem L2

section
variable {R : Res} {σ : L2.St} {ρ : List Cell} {G H : Hp} {m : Nat}
theorem own_set {ρ : List Cell} {i j : Nat} {c : Cell} {ds : D} (hc : ∀ ds, c ≠ .ow ds) (h : (ρ.set i c)[j]? = some (.ow ds)) : j ≠ i ∧ ρ[j]? = some (.ow ds) := by
  by_cases e : i = j
  · subst e
    by_cases hl : i < ρ.length
    · rw [List.getElem?_set_self hl] at h
      exact absurd (Option.some.inj h) (hc ds)
    · rw [List.getElem?_eq_none (by simpa using hl)] at h; cases h
  · rw [List.getElem?_set_ne e] at h
    exact ⟨fun z => e z.symm, h⟩
theorem Sit.setC (S : Sit R σ ρ G H m) (i : Nat) (o : Option V) (c : Cell) (hc : ∀ ds, c ≠ .ow ds) (h : CellR R G H (some o) c) : Sit R (σ.set i o) (ρ.set i c) G H m := by
  refine ⟨S.toSat, by simp [S.len], fun j d e => ?_, fun j k ds es l e1 e2 e3 e4 => ?_⟩
  · by_cases hj : i = j
    · subst hj
      by_cases hl : i < ρ.length
      · rw [List.getElem?_set_self hl] at e
        cases e
        rw [List.getElem?_set_self (by rw [S.len]; exact hl)]
        exact h
      · rw [List.getElem?_eq_none (by simpa using hl)] at e; cases e
    · rw [List.getElem?_set_ne hj] at e ⊢
      exact S.cell j d e
  · obtain ⟨n1, e1⟩ := own_set hc e1
    obtain ⟨n2, e2⟩ := own_set hc e2
    rw [List.getElem?_set_ne (Ne.symm n1)] at e3
    rw [List.getElem?_set_ne (Ne.symm n2)] at e4
    exact S.apart j k ds es l e1 e2 e3 e4
theorem Sit.setD (S : Sit R σ ρ G H m) (i : Nat) {v : V} {d : D} (r : Rp G v d) : Sit R (σ.set i (some v)) (ρ.set i (.dat d)) G H m :=
  S.setC i _ _ (fun _ z => nomatch z) ⟨v, rfl, r⟩
/-- a new object, nobody else's, to a slot -/
theorem Sit.setW (S : Sit R σ ρ G H m) (i : Nat) {l : Addr} {u : HO} {ds : D} (gl : G l = none) (nv : ¬ R.vol l) (en : R.ent l = none) (hl : H l = some u) (r : OwnR G l u ds)
    (new : ∀ (j : Nat) (es : D), ρ[j]? = some (.ow es) → σ[j]? ≠ some (some (.ref l))) : Sit R (σ.set i (some (.ref l))) (ρ.set i (.ow ds)) G H m := by
  refine ⟨S.toSat, by simp [S.len], fun j d e => ?_, fun j k es fs l' e1 e2 e3 e4 => ?_⟩
  · by_cases hj : i = j
    · subst hj
      by_cases hi : i < ρ.length
      · rw [List.getElem?_set_self hi] at e
        cases e
        rw [List.getElem?_set_self (by rw [S.len]; exact hi)]
        exact ⟨l, u, rfl, gl, nv, en, hl, r⟩
      · rw [List.getElem?_eq_none (by simpa using hi)] at e; cases e
    · rw [List.getElem?_set_ne hj] at e ⊢
      exact S.cell j d e
  · by_cases h1 : i = j
    · by_cases h2 : i = k
      · rw [← h1, ← h2]
      · subst h1
        rw [List.getElem?_set_ne h2] at e2 e4
        by_cases hi : i < σ.length
        · rw [List.getElem?_set_self hi] at e3
          cases e3
          exact absurd e4 (new k fs e2)
        · rw [List.getElem?_eq_none (by simpa using hi)] at e3; cases e3
    · by_cases h2 : i = k
      · subst h2
        rw [List.getElem?_set_ne h1] at e1 e3
        by_cases hi : i < σ.length
        · rw [List.getElem?_set_self hi] at e4
          cases e4
          exact absurd e3 (new j es e1)
        · rw [List.getElem?_eq_none (by simpa using hi)] at e4; cases e4
      · rw [List.getElem?_set_ne h1] at e1 e3
        rw [List.getElem?_set_ne h2] at e2 e4
        exact S.apart j k es fs l' e1 e2 e3 e4
theorem Sit.setO (S : Sit R σ ρ G H m) (i : Nat) {l : Addr} {vs : List V} {ds : List D} (gl : G l = none) (nv : ¬ R.vol l) (en : R.ent l = none) (hl : H l = some (.lst vs)) (r : RpL G vs ds)
    (new : ∀ (j : Nat) (es : D), ρ[j]? = some (.ow es) → σ[j]? ≠ some (some (.ref l))) : Sit R (σ.set i (some (.ref l))) (ρ.set i (.own ds)) G H m := S.setW i gl nv en hl ⟨vs, rfl, r⟩ new
/-- an owned object is written -/
theorem Sit.writeW (S : Sit R σ ρ G H m) {i : Nat} {l : Addr} {ds es : D} {u : HO} (hρ : ρ[i]? = some (.ow ds)) (hσ : σ[i]? = some (some (.ref l))) (r : OwnR G l u es) :
    Sit R σ (ρ.set i (.ow es)) G (upd H l u) m ∧ ∀ {G0 H0 : Hp}, H0 l = none → Grow R.vol G0 H0 G H → Grow R.vol G0 H0 G (upd H l u) := by
  obtain ⟨l', ws, e, gl, nv, en, hl, _⟩ := S.owT hρ
  rw [hσ] at e
  cases e
  have hi : i < ρ.length := (List.getElem?_eq_some_iff.mp hρ).1
  refine ⟨⟨⟨fun a o h => ?_, S.vg, fun a v => ?_, S.js, R.dm (fun a v => upd_ne fun z => nv (z ▸ v)) S.jd, fun p hp => ?_⟩, by simp [S.len], fun j c e => ?_, fun j k fs gs l' e1 e2 e3 e4 => ?_⟩, fun h0 g => ⟨g.gg, fun a o n h => ?_, g.new⟩⟩
  · rw [upd_ne (ne_of_none h gl)]; exact S.gh a o h
  · by_cases z : a = l
    · subst z; rw [upd_same]; exact fun z => nomatch z
    · rw [upd_ne z]; exact S.vh a v
  · by_cases z : p = l
    · rw [z]; exact en
    · rw [upd_ne z] at hp; exact S.en p hp
  · by_cases hj : i = j
    · subst hj
      rw [List.getElem?_set_self hi] at e
      cases e
      exact ⟨l, u, hσ, gl, nv, en, upd_same, r⟩
    · rw [List.getElem?_set_ne hj] at e
      have q := S.cell j c e
      cases c with
      | no => trivial
      | dat d => exact q
      | raw v => exact q
      | ow fs =>
        obtain ⟨l2, vs2, q1, q2, q3, q6, q4, q5⟩ := q
        refine ⟨l2, vs2, q1, q2, q3, q6, ?_, q5⟩
        rw [upd_ne (fun z => hj (S.apart i j ds fs l hρ e hσ (by rw [q1, z])))]
        exact q4
  · have h1 : ∃ es, ρ[j]? = some (.ow es) := by
      by_cases z : i = j
      · subst z; exact ⟨_, hρ⟩
      · rw [List.getElem?_set_ne z] at e1; exact ⟨_, e1⟩
    have h2 : ∃ es, ρ[k]? = some (.ow es) := by
      by_cases z : i = k
      · subst z; exact ⟨_, hρ⟩
      · rw [List.getElem?_set_ne z] at e2; exact ⟨_, e2⟩
    obtain ⟨_, h1⟩ := h1
    obtain ⟨_, h2⟩ := h2
    exact S.apart j k _ _ l' h1 h2 e3 e4
  · rw [upd_ne (ne_of_none h h0)]; exact g.hh a o n h
theorem Sit.write (S : Sit R σ ρ G H m) {i : Nat} {l : Addr} {ds es : List D} {vs : List V} (hρ : ρ[i]? = some (.own ds)) (hσ : σ[i]? = some (some (.ref l))) (r : RpL G vs es) :
    Sit R σ (ρ.set i (.own es)) G (upd H l (.lst vs)) m ∧ ∀ {G0 H0 : Hp}, H0 l = none → Grow R.vol G0 H0 G H → Grow R.vol G0 H0 G (upd H l (.lst vs)) := S.writeW hρ hσ ⟨vs, rfl, r⟩
/-- cells forgotten -/
inductive Wk : List Cell → List Cell → Prop
  | nil : Wk [] []
  | same {c : Cell} {ρ ρ' : List Cell} : Wk ρ ρ' → Wk (c :: ρ) (c :: ρ')
  | no {c : Cell} {ρ ρ' : List Cell} : Wk ρ ρ' → Wk (c :: ρ) (.no :: ρ')
theorem Wk.len {ρ ρ' : List Cell} (h : Wk ρ ρ') : ρ.length = ρ'.length := by induction h <;> simp [*]
theorem Wk.at {ρ ρ' : List Cell} (h : Wk ρ ρ') : ∀ (i : Nat) (c : Cell), ρ'[i]? = some c → c = .no ∨ ρ[i]? = some c := by
  induction h with
  | nil => intro i c e; simp at e
  | same _ ih =>
    intro i c e
    cases i with
    | zero => exact .inr e
    | succ i => exact ih i c (by simpa using e)
  | no _ ih =>
    intro i c e
    cases i with
    | zero => simp at e; exact .inl e.symm
    | succ i => exact ih i c (by simpa using e)
theorem Sit.weak {ρ' : List Cell} (S : Sit R σ ρ G H m) (w : Wk ρ ρ') : Sit R σ ρ' G H m :=
  ⟨S.toSat, S.len.trans w.len, fun i c e => by
    rcases w.at i c e with rfl | h
    · trivial
    · exact S.cell i c h, fun i j ds es l e1 e2 => by
    rcases w.at i _ e1 with h1 | h1
    · cases h1
    · rcases w.at j _ e2 with h2 | h2
      · cases h2
      · exact S.apart i j ds es l h1 h2⟩
/-- the block's own slots forgotten -/
def wipeC (ρ : List Cell) : List Nat → List Cell
  | [] => ρ
  | v :: vs => (wipeC ρ vs).set v .no
theorem Sit.wipe (S : Sit R σ ρ G H m) : ∀ vs : List Nat, Sit R (wipe σ vs) (wipeC ρ vs) G H m
  | [] => S
  | v :: vs => (Sit.wipe S vs).setC v none .no (fun _ z => nomatch z) trivial
theorem wipe_at (σ : L2.St) : ∀ (vs : List Nat) (j : Nat), j < σ.length → j ∈ vs → (wipe σ vs)[j]? = some none
  | [], _, _, h => absurd h (by simp)
  | v :: vs, j, hl, h => by
    unfold L2.wipe
    by_cases e : v = j
    · subst e
      rw [List.getElem?_set_self (by rw [wipe_length]; exact hl)]
    · rw [List.getElem?_set_ne e]
      exact wipe_at σ vs j hl (by rcases List.mem_cons.mp h with z | z; exact absurd z.symm e; exact z)
theorem wipe_off (σ : L2.St) : ∀ (vs : List Nat) (j : Nat), j ∉ vs → (wipe σ vs)[j]? = σ[j]?
  | [], _, _ => rfl
  | v :: vs, j, h => by
    unfold L2.wipe
    rw [List.getElem?_set_ne (fun z => h (by simp [z]))]
    exact wipe_off σ vs j fun z => h (by simp [z])
theorem wipe_eq {σ σ2 : L2.St} {vs : List Nat} (hl : σ2.length = σ.length) (h : ∀ j, j ∉ vs → σ2[j]? = (wipe σ vs)[j]?) : wipe σ2 vs = wipe σ vs := by
  refine List.ext_getElem? fun j => ?_
  by_cases hj : j ∈ vs
  · by_cases hlt : j < σ.length
    · rw [wipe_at σ2 vs j (by omega) hj, wipe_at σ vs j hlt hj]
    · rw [List.getElem?_eq_none (by rw [wipe_length]; omega), List.getElem?_eq_none (by rw [wipe_length]; omega)]
  · rw [wipe_off σ2 vs j hj]; exact h j hj
end

/-- what a target gets: a value that stands for the datum; a tuple that is taken apart at once may be any -/
def ItR (tg : Expr) (G : Hp) (v : V) (d : D) : Prop := Rp G v d ∨ ((∃ es k pos, tg = Expr.Tuple es k pos) ∧ ∃ p vs es, v = .ref p ∧ G p = some (.tup vs) ∧ d = .tuple es ∧ RpL G vs es)
theorem ItR.mono {tg : Expr} {G G' : Hp} {v : V} {d : D} (h : ItR tg G v d) (e : Same G G') : ItR tg G' v d := by
  rcases h with h | ⟨t, p, vs, es, rfl, h, rfl, r⟩
  · exact .inl (h.mono e)
  · exact .inr ⟨t, p, vs, es, rfl, e _ _ h, rfl, r.mono e⟩
def tG (R : Res) (tg : Expr) (sl : List Nat) (bd : List Cell → D → Option (List Cell)) : TG := fun v σ H Q => ∃ G m d ρ ρ', Sit R σ ρ G H m ∧ ItR tg G v d ∧ bd ρ d = some ρ' ∧ ∀ σ', Sit R σ' ρ' G H m → σ'.length = σ.length → (∀ j, j ∉ sl → σ'[j]? = σ[j]?) → Q σ' H
def tGs (R : Res) (sl : List Nat) (bd : List Cell → List D → Option (List Cell)) : TGs := fun vs σ H Q => ∃ G m ds ρ ρ', Sit R σ ρ G H m ∧ RpL G vs ds ∧ bd ρ ds = some ρ' ∧ ∀ σ', Sit R σ' ρ' G H m → σ'.length = σ.length → (∀ j, j ∉ sl → σ'[j]? = σ[j]?) → Q σ' H
def JG (X : Cx) (R : Res) (tg : Expr) (sl : List Nat) (bd : List Cell → D → Option (List Cell)) : Prop := PG X tg (tG R tg sl bd)
def JGs (X : Cx) (R : Res) (tgs : List Expr) (sl : List Nat) (bd : List Cell → List D → Option (List Cell)) : Prop := PGs X tgs (tGs R sl bd)
theorem PG.imp {X : Cx} {tg : Expr} {t t' : TG} (h : PG X tg t) (k : ∀ v σ H Q, t' v σ H Q → t v σ H Q) : PG X tg t' := ⟨fun pins s σ H v u Q I r q => h.run pins s σ H v u Q I r (k v σ H Q q)⟩
theorem PGs.imp {X : Cx} {tg : List Expr} {t t' : TGs} (h : PGs X tg t) (k : ∀ v σ H Q, t' v σ H Q → t v σ H Q) : PGs X tg t' := ⟨fun pins s σ H v u Q I r q => h.run pins s σ H v u Q I r (k v σ H Q q)⟩
def bd1 (i : Nat) (ρ : List Cell) (d : D) : Option (List Cell) := some (ρ.set i (.dat d))
def bds : List Nat → List Cell → List D → Option (List Cell)
  | [], ρ, [] => some ρ
  | i :: is, ρ, d :: ds => bds is (ρ.set i (.dat d)) ds
  | _, _, _ => none
def bdT (is : List Nat) (ρ : List Cell) : D → Option (List Cell)
  | .tuple ds => bds is ρ ds
  | _ => none
section
variable {X : Cx} {R : Res} {pos : Pos}
theorem jg_name {i : Nat} {x : Str} (hN : X.N.Nodup) (hi : X.N[i]? = some x := by rfl) (hx : Loc X.env.scope x := by first | exact Or.inl rfl | exact Or.inr rfl) (hf : X.fn x = true ∨ X.env.scope.names.lookup x = some .local := by first | exact .inl rfl | exact .inr rfl) : JG X R (.Name x pos) [i] (bd1 i) :=
  PG.imp (pg_name (i := i) hN hi hx hf) fun v σ H Q ⟨G, m, d, ρ, ρ', S, r, e, k⟩ => by
    cases e
    have r : Rp G v d := by
      rcases r with r | ⟨⟨_, _, _, t⟩, _⟩
      · exact r
      · cases t
    exact k _ (S.setD i r) (by simp) fun j hj => List.getElem?_set_ne (fun z => hj (by simp [z]))
theorem jgs_nil : JGs X R [] [] (bds []) := PGs.imp pgs_nil fun vs σ H Q ⟨G, m, ds, ρ, ρ', S, r, e, k⟩ => by
  cases ds with
  | nil =>
    cases e
    cases r
    exact ⟨rfl, k _ S rfl fun _ _ => rfl⟩
  | cons _ _ => cases e
theorem jgs_cons {i : Nat} {is : List Nat} {e : Expr} {es : List Expr} (h1 : JG X R e [i] (bd1 i)) (h2 : JGs X R es is (bds is)) (hs : (assignEach (e :: es) X.env).map (·.2) = assign e X.env :: (assignEach es X.env).map (·.2) := by rfl) : JGs X R (e :: es) (i :: is) (bds (i :: is)) :=
  PGs.imp (pgs_cons h1 h2 hs) fun vs σ H Q ⟨G, m, ds, ρ, ρ', S, r, eb, k⟩ => by
    cases ds with
    | nil => cases eb
    | cons d ds =>
      cases r with
      | @cons v vs _ _ a b =>
        refine ⟨v, vs, rfl, G, m, d, ρ, _, S, .inl a, rfl, fun σ1 S1 l1 f1 => ⟨G, m, ds, _, ρ', S1, b, eb, fun σ2 S2 l2 f2 => k σ2 S2 (l2.trans l1) fun j hj => ?_⟩⟩
        rw [f2 j (fun z => hj (List.mem_cons_of_mem _ z)), f1 j (fun z => hj (by simp at z; simp [z]))]
theorem jg_tup {es : List Expr} {k n : Nat} {is : List Nat} (hc : X.calm = true) (h : JGs X R es is (bds is)) (hl : is.length = n := by rfl) (hn : (assignEach es X.env).length = n := by rfl) (hst : (assignEach es X.env).findIdx? (·.1) = none := by rfl) : JG X R (.Tuple es k pos) is (bdT is) :=
  PG.imp (pg_tup hc h hn hst) fun v σ H Q ⟨G, m, d, ρ, ρ', S, r, e, k⟩ => by
    have key : ∀ {is : List Nat} {ρ ρ' : List Cell} {ds : List D}, bds is ρ ds = some ρ' → ds.length = is.length := by
      intro is
      induction is with
      | nil => intro ρ ρ' ds e; cases ds with | nil => rfl | cons _ _ => cases e
      | cons i is ih => intro ρ ρ' ds e; cases ds with | nil => cases e | cons d ds => simp [ih (show bds is (ρ.set i (.dat d)) ds = some ρ' from e)]
    rcases r with r | ⟨_, p, vs, ds, rfl, hp, rfl, r⟩
    · cases r with
      | @tup p vs ds hp r =>
        refine ⟨p, vs, rfl, hp.sqm S.gh, ?_, G, m, ds, ρ, ρ', S, r, e, k⟩
        rw [r.length, key (show bds is ρ ds = some ρ' from e), hl]
      | _ => cases e
    · refine ⟨p, vs, rfl, SqT.of (S.gh _ _ hp), ?_, G, m, ds, ρ, ρ', S, r, e, k⟩
      rw [r.length, key (show bds is ρ ds = some ρ' from e), hl]
end

/-- what a turn brings -/
def Yl (tg : Expr) (G H : Hp) (x : V) (H' : Hp) (d : D) : Prop := (H' = H ∧ Rp G x d) ∨ ((∃ es k pos, tg = Expr.Tuple es k pos) ∧ ∃ p vs es, x = .ref p ∧ H p = none ∧ H' = upd H p (.tup vs) ∧ d = .tuple es ∧ RpL G vs es)
structure IsWalk (tg : Expr) (G : Hp) (J : It) (ds : List D) : Prop where
  go : ∀ (i : Nat) (H : Hp), Same G H → i < ds.length → J.go i H
  stop : ∀ H : Hp, Same G H → J.stop ds.length H
  yld : ∀ (i : Nat) (H : Hp) (x : V) (H' : Hp), Same G H → i < ds.length → J.yld i H x H' → ∃ d, ds[i]? = some d ∧ Yl tg G H x H' d
def tI (R : Res) (tg : Expr) (ρ : List Cell) (T : M (List D)) : TI := fun σ H Rr => ∃ G m q, Sit R σ ρ G H m ∧ T q m ∧ ∀ J ds G' H' m', Sit R σ ρ G' H' m' → Grow R.vol G H G' H' → IsWalk tg G' J ds → q ds m' → Rr J H'
def JI (X : Cx) (R : Res) (ρ : List Cell) (tg iter : Expr) (T : M (List D)) : Prop := PI X tg iter (tI R tg ρ T)
theorem PI.imp {X : Cx} {tg iter : Expr} {t t' : TI} (h : PI X tg iter t) (k : ∀ σ H Q, t' σ H Q → t σ H Q) : PI X tg iter t' := ⟨fun pins s σ H Q I q => h.run pins s σ H Q I (k σ H Q q)⟩
section
variable {X : Cx} {R : Res} {ρ : List Cell} {tg e a b : Expr} {pos p : Pos}
theorem JI.imp {T T' : M (List D)} (h : JI X R ρ tg e T) (k : ∀ q m, T' q m → T q m) : JI X R ρ tg e T' := PI.imp h fun _ _ _ ⟨G, m, q, S, t, c⟩ => ⟨G, m, q, S, k q m t, c⟩
abbrev JIE (X : Cx) (R : Res) (ρ : List Cell) (tg e : Expr) (o : Option (List D)) : Prop := JI X R ρ tg e (lift o)
theorem walk_l {tg : Expr} {K : PySem.W.Frag} {G : Hp} {p : Addr} {vs : List V} {ds : List D} (hp : G p = some (.lst vs)) (r : RpL G vs ds) : IsWalk tg G (Itl K p) ds where
  go := fun i H s hi => by
    obtain ⟨v, hv, _⟩ := r.get (List.getElem?_eq_getElem hi)
    exact ⟨vs, v, SqL.of (s _ _ hp), hv⟩
  stop := fun H s => ⟨vs, SqL.of (s _ _ hp), by rw [r.length]; exact Nat.le_refl _⟩
  yld := fun i H x H' s hi y => by
    obtain ⟨d, hd, rd⟩ := r.getV (y.2 vs (SqL.of (s _ _ hp)))
    exact ⟨d, hd, .inl ⟨y.1, rd⟩⟩
theorem walk_t {tg : Expr} {K : PySem.W.Frag} {G : Hp} {p : Addr} {vs : List V} {ds : List D} (hp : Tu G p vs) (r : RpL G vs ds) : IsWalk tg G (Itt K p) ds where
  go := fun i H s hi => by
    obtain ⟨v, hv, _⟩ := r.get (List.getElem?_eq_getElem hi)
    exact ⟨vs, v, (hp.sqm s), hv⟩
  stop := fun H s => ⟨vs, (hp.sqm s), by rw [r.length]; exact Nat.le_refl _⟩
  yld := fun i H x H' s hi y => by
    obtain ⟨d, hd, rd⟩ := r.getV (y.2 vs ((hp.sqm s)))
    exact ⟨d, hd, .inl ⟨y.1, rd⟩⟩
/-- a list or a tuple, whichever the value is -/
def iSeq (K : PySem.W.Frag) (tl : TE) : TI := fun σ H Rr => tl σ H fun x H1 => ∃ p, x = .ref p ∧ (((∃ vs, SqL K H1 p vs) ∧ Rr (Itl K p) H1) ∨ ((∃ vs, SqT K H1 p vs) ∧ Rr (Itt K p) H1))
theorem pi_seq {tl : TE} (hl : PE X e tl) : PI X tg e (iSeq X.K tl) := by
  refine ⟨fun pins s σ H Rr I h => thn (hl.run pins s σ H _ I h) fun v s1 hv => ?_⟩
  obtain ⟨x, H1, I1, r1, p, rfl, q⟩ := hv
  cases r1
  have fr : ∀ b ∈ [s1.heap.objs.size], FpOk X pins H1 b := fun b hb => by
    rw [List.mem_singleton.mp hb]
    exact I1.fpOk (Nat.le_refl _) (I1.hok.fresh (Nat.le_refl _))
  rcases q with ⟨⟨vs, hq⟩, q⟩ | ⟨⟨vs, hq⟩, q⟩
  · obtain ⟨its, _, pl, _⟩ := I1.list hq
    exact wpAny_pyIter_list pl.isList ⟨_, [s1.heap.objs.size], _, _, H1, rfl, I1.kept (t' := s1.toks) fun _ _ e => Heap.get?_push_of_some _ e, turn_list p _, ⟨_, Heap.get?_push_size _ rfl, rfl, rfl⟩, fr, q⟩
  · obtain ⟨its, _, pl, _⟩ := I1.tuple hq
    exact wpAny_pyIter_tuple (show s1.heap.IsTuple p its.toArray from pl) ⟨_, [s1.heap.objs.size], _, _, H1, rfl, I1.kept (t' := s1.toks) fun _ _ e => Heap.get?_push_of_some _ e, turn_tuple p _, ⟨_, Heap.get?_push_size _ rfl, rfl, rfl⟩, fr, q⟩
theorem ji_seq {T : M D} (h : JM X R ρ e T) : JI X R ρ tg e (fun q => T fun d => lift (dItems d) q) := by
  refine PI.imp (pi_seq h) fun σ H Rr ⟨G, m, q, S, t, k⟩ => ⟨G, m, _, S, t, fun v d G1 H1 m1 S1 g1 r1 q1 => ?_⟩
  obtain ⟨ds, hd, q1⟩ := q1
  cases r1 with
  | @lst p vs ds hp r =>
    cases hd
    exact ⟨p, rfl, .inl ⟨⟨vs, SqL.of (S1.gh _ _ hp)⟩, k _ _ G1 H1 m1 S1 g1 (walk_l hp r) q1⟩⟩
  | @tup p vs ds hp r =>
    cases hd
    exact ⟨p, rfl, .inr ⟨⟨vs, (hp.sqm S1.gh)⟩, k _ _ G1 H1 m1 S1 g1 (walk_t hp r) q1⟩⟩
  | _ => cases hd
theorem jie_seq {o : Option D} (h : JE X R ρ e o) : JIE X R ρ tg e (o.bind dItems) := (ji_seq h).imp fun _ _ => lift1
/-- a new list -/
theorem ji_new {T : M (List D)} (h : JL X R ρ e T) : JI X R ρ tg e T := (ji_seq (JL.jm h)).imp fun q m t => by
  have e : (fun ds => lift (dItems (.list ds)) q) = q := by
    funext ds m
    exact lift_some ds q m
  show T (fun ds => lift (dItems (.list ds)) q) m
  rw [e]; exact t
/-- range(..) -/
def rangeD (lo n : Int) : List D := (List.range (n - lo).toNat).map fun (i : Nat) => .int (lo + i)
theorem rangeD_len (lo n : Int) : (rangeD lo n).length = (n - lo).toNat := by simp [rangeD]
theorem walk_r {tg : Expr} {G : Hp} {lo n : Int} : IsWalk tg G (Itr lo (n - lo).toNat) (rangeD lo n) where
  go := fun i H s hi => by rw [rangeD_len] at hi; exact hi
  stop := fun H s => by rw [rangeD_len]; exact Nat.le_refl _
  yld := fun i H x H' s hi y => by
    rw [rangeD_len] at hi
    exact ⟨.int (lo + i), by simp [rangeD, hi], .inl ⟨y.1, by rw [y.2]; exact .int _⟩⟩
def small62 (i : Int) : Bool := decide (-(2 ^ 62) ≤ i ∧ i < 2 ^ 62)
def dRange : List D → Option (List D)
  | [.int n] => if small62 n = true then some (rangeD 0 n) else none
  | [.int lo, .int n] => if small62 lo = true ∧ small62 n = true then some (rangeD lo n) else none
  | _ => none
theorem ji_range1 {Ts : M (List D)} (hm : X.mg "range" = none) (ha : JA X R ρ [a] 1 Ts) (hg : Gl X "range" := by rfl) (hs : starEach [a] X.env = [(false, eval a X.env)] := by rfl) : JI X R ρ tg (.Call (.Name "range" p) [a] [] pos) (fun q => Ts fun ds => lift (dRange ds) q) := by
  refine PI.imp (pi_range1 hg hm ha hs) fun σ H Rr ⟨G, m, q, S, t, k⟩ => ⟨G, m, _, S, t, fun vs ds G1 H1 m1 S1 g1 r1 l1 q1 => ?_⟩
  obtain ⟨es, hd, q1⟩ := q1
  match ds, r1, hd with
  | [.int n], .cons a .nil, hd =>
    cases a
    simp only [dRange, small62, decide_eq_true_eq, Option.ite_none_right_eq_some, Option.some.injEq] at hd
    obtain ⟨hz, rfl⟩ := hd
    refine ⟨n, rfl, hz.1, hz.2, ?_⟩
    have w : IsWalk tg G1 (Itr 0 (n - 0).toNat) (rangeD 0 n) := walk_r
    rw [Int.sub_zero] at w
    exact k _ _ G1 H1 m1 S1 g1 w q1
theorem ji_range2 {Ts : M (List D)} (hm : X.mg "range" = none) (ha : JA X R ρ [a, b] 2 Ts) (hg : Gl X "range" := by rfl) (hs : starEach [a, b] X.env = [(false, eval a X.env), (false, eval b X.env)] := by rfl) (hs2 : starEach [b] X.env = [(false, eval b X.env)] := by rfl) :
    JI X R ρ tg (.Call (.Name "range" p) [a, b] [] pos) (fun q => Ts fun ds => lift (dRange ds) q) := by
  refine PI.imp (pi_range2 hg hm ha hs hs2) fun σ H Rr ⟨G, m, q, S, t, k⟩ => ⟨G, m, _, S, t, fun vs ds G1 H1 m1 S1 g1 r1 l1 q1 => ?_⟩
  obtain ⟨es, hd, q1⟩ := q1
  match ds, r1, hd with
  | [.int lo, .int n], .cons a (.cons b .nil), hd =>
    cases a
    cases b
    simp only [dRange, small62, decide_eq_true_eq, Option.ite_none_right_eq_some, Option.some.injEq] at hd
    obtain ⟨hz, rfl⟩ := hd
    exact ⟨lo, n, rfl, ⟨hz.1.1, hz.1.2, hz.2.1, hz.2.2⟩, k _ _ G1 H1 m1 S1 g1 walk_r q1⟩
theorem jie_range1 {o : Option D} (hm : X.mg "range" = none) (ha : JE X R ρ a o) (hg : Gl X "range" := by rfl) (hs : starEach [a] X.env = [(false, eval a X.env)] := by rfl) : JIE X R ρ tg (.Call (.Name "range" p) [a] [] pos) (C1 (fun x => dRange [x]) o) :=
  (ji_range1 hm (jae_cons ha jae_nil hs) hg hs).imp fun q m h => liftF (by
    have e : C1 (fun x => dRange [x]) o = (consO o (some [])).bind dRange := by cases o <;> rfl
    rw [← e]; exact h)
theorem jie_range2 {o1 o2 : Option D} (hm : X.mg "range" = none) (ha : JE X R ρ a o1) (hb : JE X R ρ b o2) (hg : Gl X "range" := by rfl) (hs : starEach [a, b] X.env = [(false, eval a X.env), (false, eval b X.env)] := by rfl) (hs2 : starEach [b] X.env = [(false, eval b X.env)] := by rfl) :
    JIE X R ρ tg (.Call (.Name "range" p) [a, b] [] pos) (C2 (fun x y => dRange [x, y]) o1 o2) :=
  (ji_range2 hm (jae_cons ha (jae_cons hb jae_nil hs2) (by rw [hs, hs2])) hg hs hs2).imp fun q m h => liftF (by
    have e : C2 (fun x y => dRange [x, y]) o1 o2 = (consO o1 (consO o2 (some []))).bind dRange := by cases o1 <;> cases o2 <;> rfl
    rw [← e]; exact h)
end

def cM (f : D → M (Option D)) : List D → M (List D)
  | [] => fun q m => q [] m
  | d :: ds => fun q m => f d (fun o m1 => cM f ds (fun r m2 => q (match o with | some x => x :: r | none => r) m2) m1) m
def lcM (Ti : M (List D)) (f : D → M (Option D)) : M (List D) := fun q m => Ti (fun ds m1 => ds.length < sizeLine ∧ cM f ds q m1) m
/-- one turn: the test, then the element -/
def turnM (Tt : M Bool) (Te : M D) : M (Option D) := fun q m => Tt (fun t m1 => if t = true then Te (fun x m2 => q (some x) m2) m1 else q none m1) m
section
variable {X : Cx} {R : Res} {ρ : List Cell} {tg iter elt : Expr} {ifs : List Expr} {scope : Scope} {own : List (Str × Nat)} {pos : Pos}
def OkT (X : Cx) (R : Res) (scope : Scope) (ρ : List Cell) (ifs : List Expr) (T : M Bool) : Prop := ∀ (s : Shared) (H : Hp) (C : Addr) (cl : List (Str × Addr)) (fp : List Addr), PTs (X.blk s H scope (compEnvC scope cl C X.env) fp) ifs (tT R ρ T)
def OkE (X : Cx) (R : Res) (scope : Scope) (ρ : List Cell) (e : Expr) (T : M D) : Prop := ∀ (s : Shared) (H : Hp) (C : Addr) (cl : List (Str × Addr)) (fp : List Addr), JM (X.blk s H scope (compEnvC scope cl C X.env) fp) R ρ e T
theorem okT_nil : OkT X R scope ρ [] (fun q m => q true m) := fun s H C cl fp => ⟨fun pins s σ H Q I ⟨G, m, q, S, t, k⟩ => pts_nil.run pins s σ H Q I (k true G H m S (Grow.refl _ _ _) t)⟩
theorem okT_one {c : Expr} {T : M Bool} (h : ∀ (s : Shared) (H : Hp) (C : Addr) (cl : List (Str × Addr)) (fp : List Addr), JT (X.blk s H scope (compEnvC scope cl C X.env) fp) R ρ c T) : OkT X R scope ρ [c] T := fun s H C cl fp => pts_one (h s H C cl fp)
theorem Grow.back {vol : Addr → Prop} {G0 H0 G H : Hp} {p : Addr} {o : HO} (h0 : H0 p = none) (g : Grow vol G0 H0 G H) : Grow vol G0 H0 G (upd H p o) :=
  ⟨g.gg, fun a u n h => by rw [upd_ne (ne_of_none h h0)]; exact g.hh a u n h, g.new⟩
def ttAny (X : Cx) (R : Res) (scope : Scope) (ifs : List Expr) : TT := fun σ H Q => ∃ ρ' T, OkT X R scope ρ' ifs T ∧ tT R ρ' T σ H Q
def teAny (X : Cx) (R : Res) (scope : Scope) (e : Expr) : TE := fun σ H Q => ∃ ρ' T, OkE X R scope ρ' e T ∧ tJ R ρ' T σ H Q
theorem ttAny_ok (s : Shared) (H : Hp) (C : Addr) (cl : List (Str × Addr)) (fp : List Addr) : PTs (X.blk s H scope (compEnvC scope cl C X.env) fp) ifs (ttAny X R scope ifs) := ⟨fun pins s2 σ H2 Q I ⟨ρ', T, h, q⟩ => (h s H C cl fp).run pins s2 σ H2 Q I q⟩
theorem teAny_ok (s : Shared) (H : Hp) (C : Addr) (cl : List (Str × Addr)) (fp : List Addr) : PE (X.blk s H scope (compEnvC scope cl C X.env) fp) elt (teAny X R scope elt) := ⟨fun pins s2 σ H2 Q I ⟨ρ', T, h, q⟩ => (h s H C cl fp).run pins s2 σ H2 Q I q⟩
def LcBody (X : Cx) (R : Res) (ρ : List Cell) (scope : Scope) (own : List (Str × Nat)) (ifs : List Expr) (elt : Expr) (bd : List Cell → D → Option (List Cell)) (f : D → M (Option D)) : Prop :=
  ∀ (d : D) (q : Option D → Nat → Prop) (m : Nat), f d q m → ∃ (ρ' : List Cell) (Tt : M Bool) (Te : M D), bd (wipeC ρ (own.map (·.2))) d = some ρ' ∧ OkT X R scope ρ' ifs Tt ∧ OkE X R scope ρ' elt Te ∧ turnM Tt Te q m
theorem lc_read {Ti : M (List D)} {sl : List Nat} {bd : List Cell → D → Option (List Cell)} {f : D → M (Option D)} (hsl : ∀ j ∈ sl, j ∈ own.map (·.2)) (body : LcBody X R ρ scope own ifs elt bd f) (σ : L2.St) (H : Hp) (Q : VK)
    (h : tL R ρ (lcM Ti f) σ H Q) : tLc (tI R tg ρ Ti) (tG R tg sl bd) (ttAny X R scope ifs) (teAny X R scope elt) (own.map (·.2)) σ H Q := by
  obtain ⟨G, m, q, S, t, k⟩ := h
  refine ⟨G, m, _, S, t, fun J ds G1 H1 m1 S1 g1 W q1 Dl hD => ?_⟩
  obtain ⟨hz, q1⟩ := q1
  have WW : Walk J ds.length (fun H' => Same G1 H') (fun i H' x H'' => ∃ d, ds[i]? = some d ∧ Yl tg G1 H' x H'' d) :=
    ⟨fun i H' hi s => W.go i H' s hi, fun H' s => W.stop H' s, fun i H' x H'' hi s y => W.yld i H' x H'' s hi y⟩
  have hnv : ¬ R.vol Dl := fun v => S1.vh Dl v hD
  refine lc_it (g := tG R tg sl bd) (tt := ttAny X R scope ifs) (te := teAny X R scope elt) (vs := own.map (·.2)) (σ := σ) (H1 := H1) (D := Dl) (Qd := Q (.ref Dl)) WW
    (fun i H' => ∃ (Gi : Hp) (mi : Nat) (as : List D) (vs : List V), Grow R.vol G1 H1 Gi H' ∧ Sit R σ ρ Gi H' mi ∧ Gi Dl = none ∧ H' Dl = some (.lst vs) ∧ RpL Gi vs as ∧ as.length ≤ i ∧ cM f (ds.drop i) (fun r m => q (as ++ r) m) mi)
    ?_ (fun i H' _ h => by obtain ⟨Gi, mi, as, vs, g, S', _⟩ := h; exact g.gg.trans S'.gh) ?_ ?_
  · obtain ⟨g, s⟩ := grow_own S1.gh hD (.lst [])
    obtain ⟨S2, g2⟩ := S1.growS g s
    exact ⟨G1, m1, [], [], g2, S2, S1.gh.free hD, upd_same, .nil, Nat.le_refl _, q1⟩
  · rintro i x Hi Hi' hlt ⟨Gi, mi, as, vs, g, S', gD, hDi, r, hl, hq⟩ ⟨d, hd, hy⟩
    have hdrop : ds.drop i = d :: ds.drop (i + 1) := by
      obtain ⟨h1, h2⟩ := List.getElem?_eq_some_iff.mp hd
      rw [List.drop_eq_getElem_cons h1, h2]
    rw [hdrop] at hq
    obtain ⟨ρ', Tt, Te, hbd, okt, oke, turn⟩ := body d _ mi hq
    -- the item, as a datum of a heap that is known
    have item : ∃ Gj, Grow R.vol G1 H1 Gj Hi' ∧ Sit R σ ρ Gj Hi' mi ∧ Gj Dl = none ∧ Hi' Dl = some (.lst vs) ∧ RpL Gj vs as ∧ ItR tg Gj x d := by
      rcases hy with ⟨rfl, rx⟩ | ⟨tt, p, ws, es, rfl, hp, rfl, rfl, rx⟩
      · exact ⟨Gi, g, S', gD, hDi, r, .inl (rx.mono g.gg)⟩
      · obtain ⟨g2, s2⟩ := grow_new S'.gh hp (.tup ws)
        obtain ⟨S2, g2'⟩ := S'.growS g2 s2
        have ne : Dl ≠ p := fun z => by subst z; rw [hDi] at hp; cases hp
        exact ⟨_, g.trans S'.vh g2', S2, by rw [upd_ne ne]; exact gD, by rw [upd_ne ne]; exact hDi, r.mono g2.gg, .inr ⟨tt, p, ws, es, rfl, upd_same, rfl, rx.mono (g.gg.trans g2.gg)⟩⟩
    obtain ⟨Gj, gj, Sj, gDj, hDj, rj, rx⟩ := item
    have hwl : (wipe σ (own.map (·.2))).length = σ.length := wipe_length _ _
    refine ⟨Gj, mi, d, wipeC ρ (own.map (·.2)), ρ', Sj.wipe _, rx, hbd, fun σ2 S2 l2 f2 => ⟨wipe_eq (l2.trans hwl) fun j hj => f2 j fun z => hj (hsl j z), ρ', Tt, okt, Gj, mi, _, S2, turn, fun t G3 H3 m3 S3 g3 q3 => ?_⟩⟩
    have gD3 : G3 Dl = none := g3.new Dl gDj (by rw [hDj]; exact fun z => nomatch z)
    have hD3 : H3 Dl = some (.lst vs) := g3.hh Dl _ hnv hDj
    cases t with
    | false =>
      show ∃ (Gi : Hp) (mi : Nat) (as : List D) (vs : List V), _
      have g' := gj.trans Sj.vh g3
      exact ⟨G3, m3, as, vs, g', S1.grow g' S3.gh S3.vh S3.jd, gD3, hD3, rj.mono g3.gg, Nat.le_succ_of_le hl, q3⟩
    | true =>
      show ∃ ρ' T, OkE X R scope ρ' elt T ∧ tJ R ρ' T σ2 H3 _
      refine ⟨ρ', Te, oke, G3, m3, _, S3, q3, fun v y G4 H4 m4 S4 g4 r4 q4 => ?_⟩
      have gD4 : G4 Dl = none := g4.new Dl gD3 (by rw [hD3]; exact fun z => nomatch z)
      have hD4 : H4 Dl = some (.lst vs) := g4.hh Dl _ hnv hD3
      have g' := (gj.trans Sj.vh g3).trans S3.vh g4
      have g5 : Grow R.vol G1 H1 G4 (upd H4 Dl (.lst (vs ++ [v]))) := g'.back hD
      have rl := rj.length
      refine ⟨vs, hD4, by omega, G4, m4, as ++ [y], vs ++ [v], g5, S1.grow g5 (fun a o h => by rw [upd_ne (ne_of_none h gD4)]; exact S4.gh a o h) (fun a va => ?_) (R.dm (fun a va => upd_ne fun z => hnv (z ▸ va)) S4.jd), gD4, upd_same, (rj.mono (g3.gg.trans g4.gg)).append (.cons r4 .nil), by simp; exact hl, ?_⟩
      · by_cases z : a = Dl
        · exact absurd (z ▸ va) hnv
        · rw [upd_ne z]; exact S4.vh a va
      · have e : (fun r m => q (as ++ [y] ++ r) m) = fun r m => q (as ++ (y :: r)) m := by
          funext r m
          rw [List.append_assoc]; rfl
        rw [e]
        exact q4
  · rintro H' ⟨Gi, mi, as, vs, g, S', gD, hDi, r, hl, hq⟩
    rw [List.drop_length] at hq
    have hq : q (as ++ []) mi := hq
    rw [List.append_nil] at hq
    exact k Dl vs as Gi H' mi S' (g1.trans S1.vh g) (free_of g1 S1.vh hD) gD hDi r hq
theorem jl_lc {Ti : M (List D)} {sl : List Nat} {bd : List Cell → D → Option (List Cell)} {f : D → M (Option D)} {k : Nat} (B : Bx X k) (hi : JI X R ρ tg iter Ti) (ok : BlkOk X.N X.env.scope scope own) (hsl : ∀ j ∈ sl, j ∈ own.map (·.2))
    (hg : ∀ (s : Shared) (H : Hp) (C : Addr) (cl : List (Str × Addr)) (fp : List Addr), JG (X.blk s H scope (compEnvC scope cl C X.env) fp) R tg sl bd) (body : LcBody X R ρ scope own ifs elt bd f)
    (hs : ∀ x, foldedSetIterable iter X.env x = pure x := by intro _; rfl) : JL X R ρ (.ListComp elt [⟨tg, iter, ifs, 0⟩] scope pos) (lcM Ti f) :=
  PE.imp (pe_lc B.hc B.nd hi ok hg ttAny_ok teAny_ok hs) (lc_read hsl body)
/-- name = [..], the name a plain local -/
theorem js_lc {Ti : M (List D)} {sl : List Nat} {bd : List Cell → D → Option (List Cell)} {f : D → M (Option D)} {k i : Nat} {y : Str} {py spos : Pos} (B : Bx X k) (hy : X.N[i]? = some y) (hyl : X.env.scope.names.lookup y = some .local) (hsw : swapsWith (.ListComp elt [⟨tg, iter, ifs, 0⟩] scope pos) (some (.Name y py)) spos.line X.env = pure true)
    (hi : JI X R ρ tg iter Ti) (ok : BlkOk X.N X.env.scope scope own) (hsl : ∀ j ∈ sl, j ∈ own.map (·.2))
    (hg : ∀ (s : Shared) (H : Hp) (C : Addr) (cl : List (Str × Addr)) (fp : List Addr), JG (X.blk s H scope (compEnvC scope cl C X.env) fp) R tg sl bd) (body : LcBody X R ρ scope own ifs elt bd f)
    (hs : ∀ x, foldedSetIterable iter X.env x = pure x := by intro _; rfl) : PS X (.Assign [.Name y py] (.ListComp elt [⟨tg, iter, ifs, 0⟩] scope pos) spos) (tAsg (tL R ρ (lcM Ti f)) (gName i)) :=
  ⟨fun pins s σ H Dn I h => (ps_setLc B.hc B.nd hy hyl hsw hi ok hg ttAny_ok teAny_ok hs).run pins s σ H Dn I (lc_read hsl body σ H _ h)⟩
end
end Dl

set_option Elab.async false
set_option linter.all false
set_option autoImplicit false
set_option maxRecDepth 100000
set_option maxHeartbeats 1000000
namespace Dl
open PySem L2

def cO (f : D → Option (Option D)) : List D → Option (List D)
  | [] => some []
  | d :: ds => (f d).bind fun o => (cO f ds).bind fun r => some (match o with | some x => x :: r | none => r)
def lcO (oi : Option (List D)) (f : D → Option (Option D)) : Option (List D) := oi.bind fun ds => if ds.length < sizeLine then cO f ds else none
def turnO (ot : Option Bool) (oe : Option D) : Option (Option D) := ot.bind fun t => if t = true then oe.map some else some none
def un2 {β : Type} : D → (D → D → Option β) → Option β
  | .tuple [a, b], f => f a b
  | _, _ => none
theorem cO_cM {f : D → Option (Option D)} : ∀ {ds : List D} {q : List D → Nat → Prop} {m : Nat}, lift (cO f ds) q m → cM (fun d => lift (f d)) ds q m
  | [], q, m, h => by
    show q [] m
    exact lift_some' h
  | d :: ds, q, m, h => by
    obtain ⟨o, h1, h2⟩ := lift1 h
    obtain ⟨r, h3, h4⟩ := lift1 h2
    exact ⟨o, h1, cO_cM ⟨r, h3, lift_some' h4⟩⟩
theorem lcO_lcM {oi : Option (List D)} {f : D → Option (Option D)} {q : List D → Nat → Prop} {m : Nat} (h : lift (lcO oi f) q m) : lcM (lift oi) (fun d => lift (f d)) q m := by
  obtain ⟨ds, h1, h2⟩ := lift1 h
  by_cases hz : ds.length < sizeLine
  · rw [if_pos hz] at h2
    exact ⟨ds, h1, hz, cO_cM h2⟩
  · rw [if_neg hz] at h2
    obtain ⟨_, e, _⟩ := h2
    cases e
theorem turnO_M {ot : Option Bool} {oe : Option D} {q : Option D → Nat → Prop} {m : Nat} (h : lift (turnO ot oe) q m) : turnM (lift ot) (lift oe) q m := by
  obtain ⟨t, h1, h2⟩ := lift1 h
  refine ⟨t, h1, ?_⟩
  cases t with
  | false => exact lift_some' h2
  | true =>
    obtain ⟨z, h3, h4⟩ := h2
    obtain ⟨x, h5, h6⟩ := Option.map_eq_some_iff.mp h3
    subst h6
    exact ⟨x, h5, h4⟩
section
variable {X : Cx} {R : Res} {ρ : List Cell} {tg iter elt : Expr} {ifs : List Expr} {scope : Scope} {own : List (Str × Nat)} {pos : Pos} {k : Nat}
abbrev OkTE (X : Cx) (R : Res) (scope : Scope) (ρ : List Cell) (ifs : List Expr) (o : Option Bool) : Prop := OkT X R scope ρ ifs (lift o)
abbrev OkEE (X : Cx) (R : Res) (scope : Scope) (ρ : List Cell) (e : Expr) (o : Option D) : Prop := OkE X R scope ρ e (lift o)
theorem okTE_nil : OkTE X R scope ρ [] (some true) := fun s H C cl fp => ⟨fun pins s2 σ H2 Q I ⟨G, m, q, S, t, c⟩ => (okT_nil s H C cl fp).run pins s2 σ H2 Q I ⟨G, m, q, S, lift_some' t, c⟩⟩
theorem jle_lc1 {oi : Option (List D)} {i : Nat} {ot : D → Option Bool} {oe : D → Option D} (B : Bx X k) (hi : JIE X R ρ tg iter oi) (ok : BlkOk X.N X.env.scope scope own)
    (hg : ∀ (s : Shared) (H : Hp) (C : Addr) (cl : List (Str × Addr)) (fp : List Addr), JG (X.blk s H scope (compEnvC scope cl C X.env) fp) R tg [i] (bd1 i))
    (ht : ∀ d, OkTE X R scope ((wipeC ρ (own.map (·.2))).set i (.dat d)) ifs (ot d)) (he : ∀ d, OkEE X R scope ((wipeC ρ (own.map (·.2))).set i (.dat d)) elt (oe d))
    (hsl : ∀ j ∈ [i], j ∈ own.map (·.2) := by decide) (hs : ∀ x, foldedSetIterable iter X.env x = pure x := by intro _; rfl) : JLE X R ρ (.ListComp elt [⟨tg, iter, ifs, 0⟩] scope pos) (lcO oi fun d => turnO (ot d) (oe d)) :=
  (jl_lc B hi ok hsl hg (f := fun d => lift (turnO (ot d) (oe d))) (fun d q m h => ⟨_, _, _, rfl, ht d, he d, turnO_M h⟩) hs).imp fun _ _ => lcO_lcM
theorem jle_lc2 {oi : Option (List D)} {i1 i2 : Nat} {ot : D → D → Option Bool} {oe : D → D → Option D} (B : Bx X k) (hi : JIE X R ρ tg iter oi) (ok : BlkOk X.N X.env.scope scope own)
    (hg : ∀ (s : Shared) (H : Hp) (C : Addr) (cl : List (Str × Addr)) (fp : List Addr), JG (X.blk s H scope (compEnvC scope cl C X.env) fp) R tg [i1, i2] (bdT [i1, i2]))
    (ht : ∀ a b, OkTE X R scope (((wipeC ρ (own.map (·.2))).set i1 (.dat a)).set i2 (.dat b)) ifs (ot a b)) (he : ∀ a b, OkEE X R scope (((wipeC ρ (own.map (·.2))).set i1 (.dat a)).set i2 (.dat b)) elt (oe a b))
    (hsl : ∀ l ∈ [i1, i2], l ∈ own.map (·.2) := by decide) (hs : ∀ x, foldedSetIterable iter X.env x = pure x := by intro _; rfl) : JLE X R ρ (.ListComp elt [⟨tg, iter, ifs, 0⟩] scope pos) (lcO oi fun d => un2 d fun a b => turnO (ot a b) (oe a b)) :=
  (jl_lc B hi ok hsl hg (f := fun d => lift (un2 d fun a b => turnO (ot a b) (oe a b))) (fun d q m h => by
    obtain ⟨z, h1, h2⟩ := h
    match d, h1 with
    | .tuple [a, b], h1 => exact ⟨_, _, _, rfl, ht a b, he a b, turnO_M ⟨z, h1, h2⟩⟩) hs).imp fun _ _ => lcO_lcM
end

def brw : List Cell → List Cell
  | [] => []
  | .ow d :: r => .dat d :: brw r
  | c :: r => c :: brw r
theorem brw_len : ∀ ρ : List Cell, (brw ρ).length = ρ.length
  | [] => rfl
  | .ow _ :: r => by simp [brw, brw_len r]
  | .no :: r => by simp [brw, brw_len r]
  | .dat _ :: r => by simp [brw, brw_len r]
  | .raw _ :: r => by simp [brw, brw_len r]
theorem brw_at : ∀ (ρ : List Cell) (i : Nat) (c : Cell), (brw ρ)[i]? = some c → (∃ d, ρ[i]? = some (.ow d) ∧ c = .dat d) ∨ ((∀ d, c ≠ .ow d) ∧ ρ[i]? = some c)
  | [], i, c, h => by simp [brw] at h
  | .ow ds :: r, 0, c, h => by simp [brw] at h; exact .inl ⟨ds, rfl, h.symm⟩
  | .ow _ :: r, i + 1, c, h => brw_at r i c (by simpa [brw] using h)
  | .no :: r, 0, c, h => by simp [brw] at h; subst h; exact .inr ⟨(fun _ z => nomatch z), rfl⟩
  | .no :: r, i + 1, c, h => brw_at r i c (by simpa [brw] using h)
  | .dat _ :: r, 0, c, h => by simp [brw] at h; subst h; exact .inr ⟨(fun _ z => nomatch z), rfl⟩
  | .dat _ :: r, i + 1, c, h => brw_at r i c (by simpa [brw] using h)
  | .raw _ :: r, 0, c, h => by simp [brw] at h; subst h; exact .inr ⟨(fun _ z => nomatch z), rfl⟩
  | .raw _ :: r, i + 1, c, h => brw_at r i c (by simpa [brw] using h)
/-- the addresses of one's own -/
def Owned (σ : L2.St) (ρ : List Cell) (a : Addr) : Prop := ∃ (i : Nat) (d : D), ρ[i]? = some (.ow d) ∧ σ[i]? = some (some (.ref a))
section
variable {R : Res} {σ : L2.St} {ρ : List Cell} {G H : Hp} {m : Nat}
open Classical in
noncomputable def shr (σ : L2.St) (ρ : List Cell) (G H : Hp) : Hp := fun a => if Owned σ ρ a then H a else G a
open Classical in
noncomputable def uns (σ : L2.St) (ρ : List Cell) (G : Hp) : Hp := fun a => if Owned σ ρ a then none else G a
theorem Sit.owned (S : Sit R σ ρ G H m) {a : Addr} (o : Owned σ ρ a) : ∃ u d, G a = none ∧ ¬ R.vol a ∧ H a = some u ∧ OwnR G a u d ∧ R.ent a = none := by
  obtain ⟨i, ds, h1, h2⟩ := o
  obtain ⟨l, vs, e, g, n, en, h, r⟩ := S.owT h1
  rw [h2] at e
  cases e
  exact ⟨vs, ds, g, n, h, r, en⟩
theorem Sit.shr_gg (S : Sit R σ ρ G H m) : Same G (shr σ ρ G H) := fun a o h => by
  unfold shr
  by_cases w : Owned σ ρ a
  · obtain ⟨_, _, g, _⟩ := S.owned w
    rw [g] at h; cases h
  · rw [if_neg w]; exact h
theorem Sit.shr_gh (S : Sit R σ ρ G H m) : Same (shr σ ρ G H) H := fun a o h => by
  unfold shr at h
  by_cases w : Owned σ ρ a
  · rw [if_pos w] at h; exact h
  · rw [if_neg w] at h; exact S.gh a o h
theorem Sit.lend (S : Sit R σ ρ G H m) : Sit R σ (brw ρ) (shr σ ρ G H) H m := by
  refine ⟨⟨S.shr_gh, fun a v => ?_, S.vh, R.sm S.shr_gg S.js, S.jd, S.en⟩, by rw [brw_len]; exact S.len, fun i c e => ?_, fun i j ds es l e1 _ _ _ => ?_⟩
  · unfold shr
    by_cases w : Owned σ ρ a
    · obtain ⟨_, _, _, n, _⟩ := S.owned w
      exact absurd v n
    · rw [if_neg w]; exact S.vg a v
  · rcases brw_at ρ i c e with ⟨ds, h, rfl⟩ | ⟨hn, h⟩
    · obtain ⟨l, u, e, g, n, en, hl, r⟩ := S.owT h
      refine ⟨.ref l, e, (r.mono S.shr_gg).rp ?_⟩
      unfold shr
      rw [if_pos ⟨i, ds, h, e⟩]
      exact hl
    · have q := S.cell i c h
      cases c with
      | no => trivial
      | raw v => exact q
      | dat d => obtain ⟨v, e, r⟩ := q; exact ⟨v, e, r.mono S.shr_gg⟩
      | ow ds => exact absurd rfl (hn ds)
  · rcases brw_at ρ i _ e1 with ⟨_, _, z⟩ | ⟨hn, _⟩
    · cases z
    · exact absurd rfl (hn ds)
theorem Sit.unbor (S : Sit R σ ρ G H m) {G2 H2 : Hp} {m2 : Nat} (S2 : Sit R σ (brw ρ) G2 H2 m2) (g : Grow R.vol (shr σ ρ G H) H G2 H2) :
    Sit R σ ρ (uns σ ρ G2) H2 m2 ∧ Grow R.vol G H (uns σ ρ G2) H2 ∧ ∀ p vs, Tu G2 p vs → Tu (uns σ ρ G2) p vs := by
  have gg : Same G (uns σ ρ G2) := fun a o h => by
    unfold uns
    by_cases w : Owned σ ρ a
    · obtain ⟨_, _, g, _⟩ := S.owned w
      rw [g] at h; cases h
    · rw [if_neg w]; exact g.gg a o (S.shr_gg a o h)
  have g' : Grow R.vol G H (uns σ ρ G2) H2 := ⟨gg, g.hh, fun a ga ha => by
    unfold uns
    by_cases w : Owned σ ρ a
    · rw [if_pos w]
    · rw [if_neg w]
      refine g.new a ?_ ha
      unfold shr
      rw [if_neg w]; exact ga⟩
  refine ⟨S.grow g' (fun a o h => ?_) S2.vh S2.jd, g', fun p vs ⟨o, ho, h⟩ => ⟨o, ho, ?_⟩⟩
  · unfold uns at h
    by_cases w : Owned σ ρ a
    · rw [if_pos w] at h; cases h
    · rw [if_neg w] at h; exact S2.gh a o h
  · unfold uns
    by_cases w : Owned σ ρ p
    · obtain ⟨u, d, _, n, hl, r, _⟩ := S.owned w
      have e1 := S2.gh p _ h
      have e2 := g.hh p _ n hl
      rw [e1] at e2
      cases e2
      cases d with
      | list ds => obtain ⟨vs, e, _⟩ := r; cases e
      | dict kvs => obtain ⟨L, e, _⟩ := r; unfold DictNO at e; cases e
      | _ => exact r.elim
    · rw [if_neg w]; exact h
end
section
variable {X : Cx} {R : Res} {ρ : List Cell} {e : Expr}
theorem JM.lend {T : M D} (h : JM X R (brw ρ) e T) : JM X R ρ e (fun q => T fun d m => imm d = true ∧ q d m) :=
  PE.imp h fun σ H Q ⟨G, m, q, S, t, k⟩ => ⟨_, m, _, S.lend, t, fun v d G2 H2 m2 S2 g2 r2 q2 => by
    obtain ⟨S3, g3, tt⟩ := S.unbor S2 g2
    exact k v d _ H2 m2 S3 g3 (r2.keep tt q2.1) q2.2⟩
theorem JL.lend {T : M (List D)} (h : JL X R (brw ρ) e T) : JL X R ρ e (fun q => T fun ds m => immL ds = true ∧ q ds m) :=
  PE.imp h fun σ H Q ⟨G, m, q, S, t, k⟩ => ⟨_, m, _, S.lend, t, fun p vs ds G2 H2 m2 S2 g2 hp gp hp2 r2 q2 => by
    obtain ⟨S3, g3, tt⟩ := S.unbor S2 g2
    refine k p vs ds _ H2 m2 S3 g3 hp ?_ hp2 (r2.keep tt q2.1) q2.2
    unfold uns
    by_cases w : Owned σ ρ p
    · rw [if_pos w]
    · rw [if_neg w]; exact gp⟩
theorem JT.lend {T : M Bool} (h : JT X R (brw ρ) e T) : JT X R ρ e T :=
  PT.imp h fun σ H Q ⟨G, m, q, S, t, k⟩ => ⟨_, m, _, S.lend, t, fun b G2 H2 m2 S2 g2 q2 => by
    obtain ⟨S3, g3, _⟩ := S.unbor S2 g2
    exact k b _ H2 m2 S3 g3 q2⟩
def immO (o : Option D) : Option D := o.bind fun d => if imm d = true then some d else none
def immLO (o : Option (List D)) : Option (List D) := o.bind fun d => if immL d = true then some d else none
theorem JE.lend {o : Option D} (h : JE X R (brw ρ) e o) : JE X R ρ e (immO o) := (JM.lend h).imp fun q m t => by
  obtain ⟨d, h1, h2⟩ := lift1 t
  by_cases z : imm d = true
  · rw [if_pos z] at h2
    exact ⟨d, h1, z, lift_some' h2⟩
  · rw [if_neg z] at h2
    obtain ⟨_, e, _⟩ := h2; cases e
theorem JLE.lend {o : Option (List D)} (h : JLE X R (brw ρ) e o) : JLE X R ρ e (immLO o) := (JL.lend h).imp fun q m t => by
  obtain ⟨d, h1, h2⟩ := lift1 t
  by_cases z : immL d = true
  · rw [if_pos z] at h2
    exact ⟨d, h1, z, lift_some' h2⟩
  · rw [if_neg z] at h2
    obtain ⟨_, e, _⟩ := h2; cases e
end
end Dl

set_option Elab.async false
set_option linter.all false
set_option autoImplicit false
set_option maxRecDepth 100000
set_option maxHeartbeats 1000000
namespace Dl
open PySem L2

structure FnG (P : Program) (w : World) (K : PySem.W.Frag) (mg : Str → Option Value) (base : Heap) (CX : CXT) (k : Nat) (f : Addr) (fd : FuncData) (ps : List Str) (sp : Sp) : Prop where
  len : ∀ vs H Q E, sp vs H Q E → vs.length = ps.length
  run : ∀ (A : Around) (outer : List Env) (s : Shared) (H : Hp) (args : Args) (us : List Value) (vs : List V) (Q : VK) (E : XK), A.guards = some [] → Room k A → Env0 P w K mg base A outer s H →
    BindsTo s fd args (ps.zip us) → Vals vs us → sp vs H Q E → codeAny (model P w) A (.call (.ref f) args) (CR CX outer P w H s Q E) s
section
variable {P : Program} {w : World} {K : PySem.W.Frag} {mg : Str → Option Value} {base : Heap} {CX : CXT}
theorem FnG.mono {j k : Nat} {f : Addr} {fd : FuncData} {ps : List Str} {sp : Sp} (F : FnG P w K mg base CX j f fd ps sp) (h : j ≤ k) : FnG P w K mg base CX k f fd ps sp :=
  ⟨F.len, fun A o s H args us vs Q E hg hr => F.run A o s H args us vs Q E hg (hr.mono h)⟩
/-- by its body -/
theorem fn_g {x qual : Str} {st : Stmt} {f : Addr} {fd : FuncData} {N ps : List Str} {k : Nat} {sp : Sp} (F : Fun K x qual st f fd) (S : FnScope N ps (defScope st)) (len : ∀ vs H Q E, sp vs H Q E → vs.length = ps.length)
    (body : ∀ (cdv : Value) (A : Around) (outer : List Env) (s : Shared) (H : Hp) (vs : List V) (Q : VK) (E : XK), A.guards = some [] → Room k (A.deeper (PyProof.Rows.envOfC qual (defScope st) s.heap.objs.size f cdv)) → sp vs H Q E →
      ∃ t, PSs (cxOf CX P w K mg base N qual (defScope st) f cdv A outer s H E) (defBody st) t ∧ t { nx := fun _ H' => Q .non H', rt := Q } (start N vs) H) : FnG P w K mg base CX (k + 1) f fd ps sp := by
  obtain ⟨oc, od, kV, doc, pm, an, cdv, ct, osl, rfl, lk, hcd⟩ := F.ex
  refine ⟨len, ?_⟩
  intro A outer s H args us vs Q E hg hr env hb rv h
  have hlen := len _ _ _ _ h
  have inK := env.mod.kin.keeps fun b o e => (env.bs b o e).1
  have nol := env.mod.nolimit.keeps fun b o e => (env.bs b o e).1
  refine codeAny_call_function hr.depth (inK _ _ lk) rfl S.co S.gen rfl (PySem.W.codeRec_of inK hcd) (hb _ _ _ _ ?_)
  refine wpAny_newFunctionEnv_cells S.kind (fun y hy => ?_) fun en he s1 ic => ?_
  · obtain ⟨n, v⟩ := y
    exact (S.par n (List.of_mem_zip hy).1).imp id fun q => ⟨q, PySem.W.cellsFrom_some _ _ _ (.inl q)⟩
  · subst he
    obtain ⟨t, ht, hq⟩ := body cdv A outer s H vs Q E hg (hr.deeper _) h
    refine ⟨nol.keeps ic.toInCall.keep, codeAny_func (wpAny_mono (ht.run [] s1 (start N vs) H _ (inv_start S hr.hd env hlen rv ic) hq) (fun fl s' hs => ?_) fun e s' hs => hs)⟩
    match fl, hs with
    | .ret u, ⟨v, σ', H', J, rv', q⟩ => exact ⟨v, H', J.os, J.bare, J.base, J.hok, rv', q⟩
    | .next, ⟨σ', H', J, q⟩ => exact ⟨V.non, H', J.os, J.bare, J.base, J.hok, rfl, q⟩
    | .brk, ⟨_, _, _, q⟩ => exact q.elim
    | .cont, ⟨_, _, _, q⟩ => exact q.elim
end
/-- a def of the module that is known by its name -/
def Kn (P : Program) (w : World) (K : PySem.W.Frag) (mg : Str → Option Value) (base : Heap) (x : Str) (k : Nat) (sp : Sp) : Prop :=
  ∃ f fd ps, FnG P w K mg base CX0 k f fd ps sp ∧ mg x = some (.ref f) ∧ PySem.W.keepIn K (.ref f) = true ∧ Binds K fd ps []
section
variable {X : Cx} {k : Nat} {x : Str} {p pos : Pos} {e : Expr} {es : List Expr} {sp : Sp} {t : TA}
theorem pe_kn (h : Kn X.prog X.w X.K X.mg X.base x k sp) (B : Bx X k) (ha : PA X (e :: es) t) (hg : Gl X x := by rfl) (hdb : (x == ("__debug__" : Str)) = false := by decide) (he : starEach (e :: es) X.env = (false, eval e X.env) :: starEach es X.env := by rfl)
    (hpl : (backTo pos (starEach es X.env)).any (·.1) = false := by rfl) : PE X (.Call (.Name x p) (e :: es) [] pos) (fun σ H Q => t σ H fun vs H1 => sp vs H1 Q E0) := by
  obtain ⟨f, fd, ps, F, hm, hk, hb⟩ := h
  refine ⟨fun pins s σ H Q I hq => wpAny_Call_Name_kw (ld_glob I hg hm ?_ hdb)⟩
  refine PySem.W.callWith_K (h₀ := X.base) I.ok.mod.kin hk (thn (ha.run pos pins s σ H _ I hq) fun us s1 hs => ?_) he hpl
  obtain ⟨vs, H1, I1, rv, q⟩ := hs
  have bt := hb s1 us I1.kIn (by rw [List.append_nil, ← rv.length]; exact F.len _ _ _ _ q)
  rw [List.append_nil] at bt
  refine ⟨I1.kIn, wpAny_call (codeAny_mono (F.run X.A X.stack s1 H1 ⟨us, []⟩ us vs Q E0 B.hg B.hr I1.env0 bt rv q) fun r s' hr => ?_)⟩
  match r, hr with
  | .ok (.ret u), hr => exact I1.after hr
  | .error e, hr => exact hr.elim
end

/-- how an answer is handed back: a datum, or a new list of nobody else's. en: the heap at the entry -/
structure RK (α : Type) where
  rel : Hp → Hp → Hp → V → α → Prop
def RK.dat : RK D := ⟨fun _ G' _ v d => Rp G' v d⟩
def RK.lst : RK (List D) := ⟨fun en G' H' v ds => ∃ p vs, v = .ref p ∧ en p = none ∧ G' p = none ∧ H' p = some (.lst vs) ∧ RpL G' vs ds⟩
/-- a pure def of n arguments: the answer is F's -/
def spR {α : Type} (rk : RK α) (n : Nat) (F : List D → Option α) : Sp := fun vs H Q _ => ∃ G ds a, Same G H ∧ RpL G vs ds ∧ ds.length = n ∧ F ds = some a ∧ ∀ v G' H', Grow (fun _ => False) G H G' H' → Same G' H' → rk.rel H G' H' v a → Q v H'
section
variable {X : Cx} {R : Res} {ρ : List Cell} {k n : Nat} {x : Str} {p pos : Pos} {e : Expr} {es : List Expr}
theorem jm_kn {F : List D → Option D} {Ts : M (List D)} (h : Kn X.prog X.w X.K X.mg X.base x k (spR .dat n F)) (B : Bx X k) (ha : JA X R ρ (e :: es) n Ts) (hg : Gl X x := by rfl) (hdb : (x == ("__debug__" : Str)) = false := by decide)
    (he : starEach (e :: es) X.env = (false, eval e X.env) :: starEach es X.env := by rfl) (hpl : (backTo pos (starEach es X.env)).any (·.1) = false := by rfl) : JM X R ρ (.Call (.Name x p) (e :: es) [] pos) (fun q => Ts fun ds => lift (F ds) q) := by
  refine PE.imp (pe_kn h B ha hg hdb he hpl) fun σ H Q ⟨G, m, q, S, t, k⟩ => ⟨G, m, _, S, t, fun vs ds G1 H1 m1 S1 g1 r1 l1 q1 => ?_⟩
  obtain ⟨z, hz, q1⟩ := q1
  refine ⟨G1, ds, z, S1.gh, r1, l1, hz, fun v G2 H2 g2 s2 r2 => ?_⟩
  obtain ⟨S2, g2'⟩ := S1.growS g2 s2
  exact k v z G2 H2 m1 S2 (g1.trans S1.vh g2') r2 q1
theorem je_kn {F : List D → Option D} {os : Option (List D)} (h : Kn X.prog X.w X.K X.mg X.base x k (spR .dat n F)) (B : Bx X k) (ha : JAE X R ρ (e :: es) n os) (hg : Gl X x := by rfl) (hdb : (x == ("__debug__" : Str)) = false := by decide)
    (he : starEach (e :: es) X.env = (false, eval e X.env) :: starEach es X.env := by rfl) (hpl : (backTo pos (starEach es X.env)).any (·.1) = false := by rfl) : JE X R ρ (.Call (.Name x p) (e :: es) [] pos) (os.bind F) := (jm_kn h B ha hg hdb he hpl).imp fun _ _ => liftF
variable {id T : String} {r : List V → Hp → VK → Prop}
theorem je_callB {F : List D → Option D} {os : Option (List D)} (hr : CallR X (.builtin id) r) (hF : CallD r F) (hm : X.mg x = none) (hv : bootBuiltins x = some (.builtin id)) (ha : JAE X R ρ (e :: es) n os) (hg : Gl X x := by rfl) (hn : x ≠ "__name__" := by decide) (hdb : (x == ("__debug__" : Str)) = false := by decide)
    (he : starEach (e :: es) X.env = (false, eval e X.env) :: starEach es X.env := by rfl) (hpl : (backTo pos (starEach es X.env)).any (·.1) = false := by rfl) : JE X R ρ (.Call (.Name x p) (e :: es) [] pos) (os.bind F) := (jm_callB hr hF hm hv ha hg hn hdb he hpl).imp fun _ _ => liftF
theorem je_callTy {F : List D → Option D} {os : Option (List D)} (hr : CallR X (.type T) r) (hF : CallD r F) (hm : X.mg x = none) (hv : bootBuiltins x = some (.type T)) (ha : JAE X R ρ (e :: es) n os) (hg : Gl X x := by rfl) (hn : x ≠ "__name__" := by decide) (hdb : (x == ("__debug__" : Str)) = false := by decide)
    (he : starEach (e :: es) X.env = (false, eval e X.env) :: starEach es X.env := by rfl) (hpl : (backTo pos (starEach es X.env)).any (·.1) = false := by rfl) : JE X R ρ (.Call (.Name x p) (e :: es) [] pos) (os.bind F) := (jm_callTy hr hF hm hv ha hg hn hdb he hpl).imp fun _ _ => liftF
theorem jle_callTy {F : List D → Option (List D)} {os : Option (List D)} (hr : CallR X (.type T) r) (hF : CallDL r F) (hm : X.mg x = none) (hv : bootBuiltins x = some (.type T)) (ha : JAE X R ρ (e :: es) n os) (hg : Gl X x := by rfl) (hn : x ≠ "__name__" := by decide) (hdb : (x == ("__debug__" : Str)) = false := by decide)
    (he : starEach (e :: es) X.env = (false, eval e X.env) :: starEach es X.env := by rfl) (hpl : (backTo pos (starEach es X.env)).any (·.1) = false := by rfl) : JLE X R ρ (.Call (.Name x p) (e :: es) [] pos) (os.bind F) := (jl_callTy hr hF hm hv ha hg hn hdb he hpl).imp fun _ _ => liftF
end

/-- what each way out of a block may be: the cells then, and what is then to hold -/
structure Kt where
  nx : List Cell → (Nat → Prop) → Prop
  bk : List Cell → (Nat → Prop) → Prop
  ct : List Cell → (Nat → Prop) → Prop
def Lk (R : Res) (Gb Gs : Hp) (κ : List Cell → (Nat → Prop) → Prop) (P : L2.St → Hp → Prop) : Prop := ∀ ρ' b σ' G' H' m', κ ρ' b → b m' → Sit R σ' ρ' G' H' m' → Grow R.vol Gb R.ent G' H' → Same Gs G' → P σ' H'
def Rt {α : Type} (R : Res) (rk : RK α) (Gb : Hp) (q : α → Nat → Prop) (P : VK) : Prop := ∀ v a G' H' m', Sat R G' H' m' → Grow R.vol Gb R.ent G' H' → rk.rel R.ent G' H' v a → q a m' → P v H'
/-- the ways out of a block, from what is known -/
structure Ls {α : Type} (R : Res) (rk : RK α) (Gb Gs : Hp) (κ : Kt) (q : α → Nat → Prop) (Dn : Ends) : Prop where
  rt : Rt R rk Gb q Dn.rt
  nx : Lk R Gb Gs κ.nx Dn.nx
  bk : Lk R Gb Gs κ.bk Dn.bk
  ct : Lk R Gb Gs κ.ct Dn.ct
theorem Lk.sm {R : Res} {Gb Gs G1 : Hp} {κ : List Cell → (Nat → Prop) → Prop} {P : L2.St → Hp → Prop} (l : Lk R Gb Gs κ P) (s : Same Gs G1) : Lk R Gb G1 κ P := fun ρ' b σ' G' H' m' h hb S g s' => l ρ' b σ' G' H' m' h hb S g (s.trans s')
theorem Ls.sm {α : Type} {R : Res} {rk : RK α} {Gb Gs G1 : Hp} {κ : Kt} {q : α → Nat → Prop} {Dn : Ends} (l : Ls R rk Gb Gs κ q Dn) (s : Same Gs G1) : Ls R rk Gb G1 κ q Dn := ⟨l.rt, l.nx.sm s, l.bk.sm s, l.ct.sm s⟩
def tK {α : Type} (R : Res) (rk : RK α) (ρ : List Cell) (κ : Kt) (q : α → Nat → Prop) (a : Nat → Prop) : TS := fun Dn σ H => ∃ Gb G m, Sit R σ ρ G H m ∧ Grow R.vol Gb R.ent G H ∧ a m ∧ Ls R rk Gb G κ q Dn
def JK {α : Type} (X : Cx) (R : Res) (rk : RK α) (ρ : List Cell) (st : List Stmt) (κ : Kt) (q : α → Nat → Prop) (a : Nat → Prop) : Prop := PSs X st (tK R rk ρ κ q a)
theorem PSs.imp {X : Cx} {st : List Stmt} {t t' : TS} (h : PSs X st t) (k : ∀ Dn σ H, t' Dn σ H → t Dn σ H) : PSs X st t' := ⟨fun pins s σ H Dn I q => h.run pins s σ H Dn I (k Dn σ H q)⟩
theorem PS.imp {X : Cx} {st : Stmt} {t t' : TS} (h : PS X st t) (k : ∀ Dn σ H, t' Dn σ H → t Dn σ H) : PS X st t' := ⟨fun pins s σ H Dn I q => h.run pins s σ H Dn I (k Dn σ H q)⟩
theorem pss_any {X : Cx} {st : List Stmt} {ι : Type} {t : ι → TS} (h : ∀ i, PSs X st (t i)) : PSs X st (fun Dn σ H => ∃ i, t i Dn σ H) := ⟨fun pins s σ H Dn I ⟨i, q⟩ => (h i).run pins s σ H Dn I q⟩
section
variable {α : Type} {X : Cx} {R : Res} {rk : RK α} {ρ : List Cell} {st : Stmt} {rest : List Stmt} {κ : Kt} {q : α → Nat → Prop} {e : Expr} {pos : Pos}
theorem Sit.tr {σ : L2.St} {Gb G H G1 H1 : Hp} {m : Nat} (S : Sit R σ ρ G H m) (g0 : Grow R.vol Gb R.ent G H) (g : Grow R.vol G H G1 H1) : Grow R.vol Gb R.ent G1 H1 := g0.trans S.vh g
theorem JK.imp {st : List Stmt} {a a' : Nat → Prop} (h : JK X R rk ρ st κ q a) (k : ∀ m, a' m → a m) : JK X R rk ρ st κ q a' := PSs.imp h fun _ _ _ ⟨Gb, G, m, S, g, t, r⟩ => ⟨Gb, G, m, S, g, k m t, r⟩
theorem JK.kmono {st : List Stmt} {κ' : Kt} {a : Nat → Prop} (h : JK X R rk ρ st κ q a) (k1 : ∀ ρ b, κ.nx ρ b → κ'.nx ρ b) (k2 : ∀ ρ b, κ.bk ρ b → κ'.bk ρ b) (k3 : ∀ ρ b, κ.ct ρ b → κ'.ct ρ b) : JK X R rk ρ st κ' q a :=
  PSs.imp h fun _ _ _ ⟨Gb, G, m, S, g, t, ls⟩ => ⟨Gb, G, m, S, g, t, ls.rt, fun ρ' b σ' G' H' m' h => ls.nx ρ' b σ' G' H' m' (k1 _ _ h), fun ρ' b σ' G' H' m' h => ls.bk ρ' b σ' G' H' m' (k2 _ _ h), fun ρ' b σ' G' H' m' h => ls.ct ρ' b σ' G' H' m' (k3 _ _ h)⟩
theorem jk_nil {a : Nat → Prop} (h : κ.nx ρ a) : JK X R rk ρ [] κ q a := PSs.imp pss_nil fun _ σ H ⟨Gb, G, m, S, g, t, ls⟩ => ls.nx ρ a σ G H m h t S g (Same.refl _)
/-- a statement that stores a datum to slot i -/
theorem jk_st {T : M D} {i : Nat} {k : D → Nat → Prop} (hs : PS X st (tAsg (tJ R ρ T) (gName i))) (hr : ∀ d, JK X R rk (ρ.set i (.dat d)) rest κ q (k d)) : JK X R rk ρ (st :: rest) κ q (T k) :=
  PSs.imp (pss_cons hs (pss_any hr)) fun Dn σ H ⟨Gb, G, m, S, g, t, ls⟩ => ⟨G, m, _, S, t, fun v d G1 H1 m1 S1 g1 r1 q1 => ⟨d, Gb, G1, m1, S1.setD i r1, S.tr g g1, q1, ls.sm g1.gg⟩⟩
/-- .. a new list, one's own -/
theorem jk_stL {T : M (List D)} {i : Nat} {k : List D → Nat → Prop} (hs : PS X st (tAsg (tL R ρ T) (gName i))) (hr : ∀ ds, JK X R rk (ρ.set i (.own ds)) rest κ q (k ds)) : JK X R rk ρ (st :: rest) κ q (T k) :=
  PSs.imp (pss_cons hs (pss_any hr)) fun Dn σ H ⟨Gb, G, m, S, g, t, ls⟩ => ⟨G, m, _, S, t, fun p vs ds G1 H1 m1 S1 g1 hp gp hp1 r1 q1 => ⟨ds, Gb, G1, m1, S1.setO i gp (fun v => S.vh p v hp) (S.en p hp) hp1 r1 (fun j es e z => by
    obtain ⟨l, ws, e2, _, _, _, hl, _⟩ := S.owT e
    rw [z] at e2
    cases e2
    rw [hp] at hl
    cases hl), S.tr g g1, q1, ls.sm g1.gg⟩⟩
/-- the stores -/
theorem st_set {i : Nat} {x : Str} {p' : Pos} {T : M D} (he : JM X R ρ e T) (hN : X.N.Nodup) (hi : X.N[i]? = some x := by rfl) (hx : Loc X.env.scope x := by first | exact Or.inl rfl | exact Or.inr rfl) (hs : swapsWith e (some (.Name x p')) pos.line X.env = pure false := by rfl)
    (hf : X.fn x = true ∨ X.env.scope.names.lookup x = some .local := by first | exact .inl rfl | exact .inr rfl) : PS X (.Assign [.Name x p'] e pos) (tAsg (tJ R ρ T) (gName i)) := ps_set hN hi hx he hs hf
theorem st_setL {i : Nat} {x : Str} {p' : Pos} {T : M (List D)} (he : JL X R ρ e T) (hN : X.N.Nodup) (hi : X.N[i]? = some x := by rfl) (hx : Loc X.env.scope x := by first | exact Or.inl rfl | exact Or.inr rfl) (hs : swapsWith e (some (.Name x p')) pos.line X.env = pure false := by rfl)
    (hf : X.fn x = true ∨ X.env.scope.names.lookup x = some .local := by first | exact .inl rfl | exact .inr rfl) : PS X (.Assign [.Name x p'] e pos) (tAsg (tL R ρ T) (gName i)) := ps_set hN hi hx he hs hf
/-- a new list that all may know -/
theorem tL_tJ {T : M (List D)} (σ : L2.St) (H : Hp) (Q : VK) (h : tJ R ρ (fun q => T fun ds => q (.list ds)) σ H Q) : tL R ρ T σ H Q := by
  obtain ⟨G, m, q, S, t, c⟩ := h
  refine ⟨G, m, _, S, t, fun p vs ds G' H' m' S' g hp gp hp' r hq => ?_⟩
  obtain ⟨g1, g2⟩ := grow_share S'.gh gp hp'
  have g' : Grow R.vol G H (upd G' p (.lst vs)) H' := ⟨g.gg.trans g1, g.hh, fun x gx hx => by
    by_cases e : x = p
    · subst e; exact absurd hp hx
    · rw [upd_ne e]; exact g.new x gx hx⟩
  exact c _ _ _ _ m' (S.grow g' g2 S'.vh S'.jd) g' (.lst upd_same (r.mono g1)) hq
theorem st_shr {i : Nat} {T : M (List D)} (h : PS X st (tAsg (tL R ρ T) (gName i))) : PS X st (tAsg (tJ R ρ fun q => T fun ds => q (.list ds)) (gName i)) := PS.imp h fun Dn σ H q => tL_tJ σ H _ q
theorem jk_ret {T : M D} {q : D → Nat → Prop} (he : JM X R ρ e T) : JK X R .dat ρ (.Return (some e) pos :: rest) κ q (T q) :=
  PSs.imp (pss_cons (ps_ret he) pss_never) fun Dn σ H ⟨Gb, G, m, S, g, t, ls⟩ => ⟨G, m, _, S, t, fun v d G1 H1 m1 S1 g1 r1 q1 => ls.rt v d G1 H1 m1 S1.toSat (S.tr g g1) r1 q1⟩
theorem jk_retL {T : M (List D)} {q : List D → Nat → Prop} (he : JL X R ρ e T) : JK X R .lst ρ (.Return (some e) pos :: rest) κ q (T q) :=
  PSs.imp (pss_cons (ps_ret he) pss_never) fun Dn σ H ⟨Gb, G, m, S, g, t, ls⟩ => ⟨G, m, _, S, t, fun p vs ds G1 H1 m1 S1 g1 hp gp hp1 r1 q1 => ls.rt _ ds G1 H1 m1 S1.toSat (S.tr g g1) ⟨p, vs, rfl, S.en p hp, gp, hp1, r1⟩ q1⟩
theorem jk_if {c : Expr} {A B : List Stmt} {Tc : M Bool} {aA aB : Nat → Prop} (hc : JT X R ρ c Tc) (hA : JK X R rk ρ A ⟨fun ρ' b => JK X R rk ρ' rest κ q b, κ.bk, κ.ct⟩ q aA) (hB : JK X R rk ρ B ⟨fun ρ' b => JK X R rk ρ' rest κ q b, κ.bk, κ.ct⟩ q aB) :
    JK X R rk ρ (.If c A B pos :: rest) κ q (Tc fun t m => if t = true then aA m else aB m) := by
  have hrest : PSs X rest (fun Dn σ H => ∃ z : { z : List Cell × (Nat → Prop) // JK X R rk z.1 rest κ q z.2 }, tK R rk z.1.1 κ q z.1.2 Dn σ H) := pss_any fun z => z.2
  refine PSs.imp (pss_cons (ps_if hc hA hB) hrest) fun Dn σ H ⟨Gb, G, m, S, g, t, ls⟩ => ⟨G, m, _, S, t, fun b G1 H1 m1 S1 g1 q1 => ?_⟩
  have nx : Ls R rk Gb G1 ⟨fun ρ' b => JK X R rk ρ' rest κ q b, κ.bk, κ.ct⟩ q { Dn with nx := fun σ' H' => ∃ z : { z : List Cell × (Nat → Prop) // JK X R rk z.1 rest κ q z.2 }, tK R rk z.1.1 κ q z.1.2 Dn σ' H' } :=
    ⟨ls.rt, fun ρ' b σ' G' H' m' h hb S' g' s' => ⟨⟨(ρ', b), h⟩, Gb, G', m', S', g', hb, ls.sm (g1.gg.trans s')⟩, ls.bk.sm g1.gg, ls.ct.sm g1.gg⟩
  cases b with
  | true =>
    show tK R rk ρ _ q aA _ σ H1
    exact ⟨Gb, G1, m1, S1, S.tr g g1, q1, nx⟩
  | false =>
    show tK R rk ρ _ q aB _ σ H1
    exact ⟨Gb, G1, m1, S1, S.tr g g1, q1, nx⟩
/-- a, b = a datum -/
def un2M : D → (D → D → Nat → Prop) → Nat → Prop
  | .tuple [a, b], k => k a b
  | _, _ => fun _ => False
theorem jk_un2 {T : M D} {tg : Expr} {i j : Nat} {k : D → D → Nat → Prop} (he : JM X R ρ e T) (hg : JG X R tg [i, j] (bdT [i, j])) (hr : ∀ a b, JK X R rk ((ρ.set i (.dat a)).set j (.dat b)) rest κ q (k a b))
    (hs : swapsWithSole [tg] e pos.line X.env = pure false := by rfl) (hw : swappedStores [tg] e X.env = pure none := by rfl) (h1 : (assignEach [tg] X.env).map (·.2) = [assign tg X.env] := by rfl) : JK X R rk ρ (.Assign [tg] e pos :: rest) κ q (T fun d => un2M d k) :=
  PSs.imp (pss_cons (ps_asg he hg hs hw h1) (pss_any fun z : D × D => hr z.1 z.2)) fun Dn σ H ⟨Gb, G, m, S, g, t, ls⟩ => ⟨G, m, _, S, t, fun v d G1 H1 m1 S1 g1 r1 q1 => by
    match d, r1, q1 with
    | .tuple [a, b], r1, q1 => exact ⟨G1, m1, _, _, _, S1, .inl r1, rfl, fun σ' S' _ _ => ⟨(a, b), Gb, G1, m1, S', S.tr g g1, q1, ls.sm g1.gg⟩⟩⟩
end
end Dl

set_option Elab.async false
set_option linter.all false
set_option autoImplicit false
set_option maxRecDepth 100000
set_option maxHeartbeats 1000000
namespace Dl
open PySem L2

def forK {S : Type} (body : S → D → (S → Nat → Prop) → Nat → Prop) : List D → S → (S → Nat → Prop) → Nat → Prop
  | [], s, k => k s
  | d :: ds, s, k => body s d fun s' => forK body ds s' k
/-- the body's ways out: its next turn, the loop's end -/
def KtL {S : Type} (env : S → List Cell) (kk : S → Nat → Prop) (bk : List Cell → (Nat → Prop) → Prop) : Kt :=
  ⟨fun ρ' b => ∃ s', Wk ρ' (env s') ∧ ∀ m, b m → kk s' m, bk, fun ρ' b => ∃ s', Wk ρ' (env s') ∧ ∀ m, b m → kk s' m⟩
section
variable {α S : Type} {X : Cx} {R : Res} {rk : RK α} {ρ : List Cell} {rest body : List Stmt} {κ : Kt} {q : α → Nat → Prop} {tg iter c : Expr} {pos : Pos} {env : S → List Cell} {s0 : S} {k : S → Nat → Prop}
/-- a block by any of its forms -/
def tbF (X : Cx) (R : Res) (rk : RK α) (body rest : List Stmt) (env : S → List Cell) (κ : Kt) (q : α → Nat → Prop) : TS := fun Dn σ H => ∃ z : { z : List Cell × (S → Nat → Prop) × (Nat → Prop) // JK X R rk z.1 body (KtL env z.2.1 fun ρ' b => JK X R rk ρ' rest κ q b) q z.2.2 }, tK R rk z.1.1 (KtL env z.1.2.1 fun ρ' b => JK X R rk ρ' rest κ q b) q z.1.2.2 Dn σ H
def tbR (X : Cx) (R : Res) (rk : RK α) (rest : List Stmt) (κ : Kt) (q : α → Nat → Prop) : TS := fun Dn σ H => ∃ z : { z : List Cell × (Nat → Prop) // JK X R rk z.1 rest κ q z.2 }, tK R rk z.1.1 κ q z.1.2 Dn σ H
theorem tbF_ok : PSs X body (tbF X R rk body rest env κ q) := pss_any fun z => z.2
theorem tbR_ok : PSs X rest (tbR X R rk rest κ q) := pss_any fun z => z.2
theorem jk_for {Ti : M (List D)} {sl : List Nat} {bd : List Cell → D → Option (List Cell)} {bodyM : S → D → (S → Nat → Prop) → Nat → Prop} {n : Nat} (B : Bx X n) (hi : JI X R ρ tg iter Ti) (hg : JG X R tg sl bd) (w0 : Wk ρ (env s0))
    (hb : ∀ (s : S) (d : D) (kk : S → Nat → Prop) (m : Nat), bodyM s d kk m → ∃ ρ', bd (env s) d = some ρ' ∧ JK X R rk ρ' body (KtL env kk fun ρ' b => JK X R rk ρ' rest κ q b) q (bodyM s d kk))
    (hr : ∀ s, JK X R rk (env s) rest κ q (k s)) (hs : ∀ x, foldedSetIterable iter X.env x = pure x := by intro _; rfl) : JK X R rk ρ (.For tg iter body [] pos :: rest) κ q (Ti fun ds => forK bodyM ds s0 k) := by
  refine PSs.imp (pss_cons (ps_for B.ps B.hc hi hg (tbF_ok (R := R) (rk := rk) (rest := rest) (env := env) (κ := κ) (q := q)) hs) (tbR_ok (R := R) (rk := rk) (κ := κ) (q := q))) fun Dn σ H ⟨Gb, G, m, S0, g, t, ls⟩ => ⟨G, m, _, S0, t, fun J ds G1 H1 m1 S1 g1 W q1 => ?_⟩
  have WW : Walk J ds.length (fun H' => Same G1 H') (fun i H' x H'' => ∃ d, ds[i]? = some d ∧ Yl tg G1 H' x H'' d) :=
    ⟨fun i H' hi s => W.go i H' s hi, fun H' s => W.stop H' s, fun i H' x H'' hi s y => W.yld i H' x H'' s hi y⟩
  refine for_it (g := tG R tg sl bd) (tb := tbF X R rk body rest env κ q) (D := { Dn with nx := tbR X R rk rest κ q Dn }) WW (fun i σ' H' => ∃ (s : S) (Gi : Hp) (mi : Nat), Sit R σ' (env s) Gi H' mi ∧ Grow R.vol Gb R.ent Gi H' ∧ Same G1 Gi ∧ forK bodyM (ds.drop i) s k mi)
    ⟨s0, G1, m1, S1.weak w0, S0.tr g g1, Same.refl _, q1⟩ (fun i σ' H' _ h => by obtain ⟨s, Gi, mi, S', _, sg, _⟩ := h; exact sg.trans S'.gh) ?_ ?_
  · rintro i x σ' Hi Hi' hlt ⟨s, Gi, mi, S', g', sg, hq⟩ ⟨d, hd, hy⟩
    have hdrop : ds.drop i = d :: ds.drop (i + 1) := by
      obtain ⟨h1, h2⟩ := List.getElem?_eq_some_iff.mp hd
      rw [List.drop_eq_getElem_cons h1, h2]
    rw [hdrop] at hq
    obtain ⟨ρ', hbd, hk⟩ := hb s d _ mi hq
    have item : ∃ Gj, Grow R.vol Gb R.ent Gj Hi' ∧ Sit R σ' (env s) Gj Hi' mi ∧ Same G1 Gj ∧ ItR tg Gj x d := by
      rcases hy with ⟨rfl, rx⟩ | ⟨tt, p, ws, es, rfl, hp, rfl, rfl, rx⟩
      · exact ⟨Gi, g', S', sg, .inl (rx.mono sg)⟩
      · obtain ⟨g2, s2⟩ := grow_new S'.gh hp (.tup ws)
        obtain ⟨S2, g2'⟩ := S'.growS g2 s2
        exact ⟨_, g'.trans S'.vh g2', S2, sg.trans g2.gg, .inr ⟨tt, p, ws, es, rfl, upd_same, rfl, rx.mono (sg.trans g2.gg)⟩⟩
    obtain ⟨Gj, gj, Sj, sgj, rx⟩ := item
    have turn : ∀ (ρ2 : List Cell) (b : Nat → Prop) (σ3 : L2.St) (G3 H3 : Hp) (m3 : Nat), (∃ s', Wk ρ2 (env s') ∧ ∀ m, b m → forK bodyM (ds.drop (i + 1)) s' k m) → b m3 → Sit R σ3 ρ2 G3 H3 m3 → Grow R.vol Gb R.ent G3 H3 → Same Gj G3 →
        ∃ (s : S) (Gi : Hp) (mi : Nat), Sit R σ3 (env s) Gi H3 mi ∧ Grow R.vol Gb R.ent Gi H3 ∧ Same G1 Gi ∧ forK bodyM (ds.drop (i + 1)) s k mi := fun ρ2 b σ3 G3 H3 m3 ⟨s', w', hb'⟩ hb3 S3 g3 s3 => ⟨s', G3, m3, S3.weak w', g3, sgj.trans s3, hb' _ hb3⟩
    exact ⟨Gj, mi, d, env s, ρ', Sj, rx, hbd, fun σ2 S2 _ _ => ⟨⟨(ρ', _, _), hk⟩, Gb, Gj, mi, S2, gj, hq, ls.rt, turn, fun ρ2 b σ3 G3 H3 m3 h hb3 S3 g3 s3 => ⟨⟨(ρ2, b), h⟩, Gb, G3, m3, S3, g3, hb3, ls.sm (g1.gg.trans (sgj.trans s3))⟩, turn⟩⟩
  · rintro σ' H' ⟨s, Gi, mi, S', g', sg, hq⟩
    rw [List.drop_length] at hq
    exact ⟨⟨(env s, k s), hr s⟩, Gb, Gi, mi, S', g', hq, ls.sm (g1.gg.trans sg)⟩
end
end Dl

set_option Elab.async false
set_option linter.all false
set_option autoImplicit false
set_option maxRecDepth 100000
set_option maxHeartbeats 1000000
namespace Dl
open PySem L2

section
variable {α : Type} {X : Cx} {R : Res} {rk : RK α} {ρ : List Cell} {st : Stmt} {rest : List Stmt} {κ : Kt} {q : α → Nat → Prop} {e ix : Expr} {pos p1 p2 p3 : Pos} {x : Str} {ds : List D}
theorem jk_app {T : M D} (i : Nat) {k : D → Nat → Prop} (he : JM X R ρ e T) (hr : ∀ d, JK X R rk (ρ.set i (.own (ds ++ [d]))) rest κ q (k d)) (hρ : ρ[i]? = some (.own ds) := by rfl) (hN : X.N[i]? = some x := by rfl)
    (hv : Vis X.env.scope x := by first | exact Or.inl rfl | exact Or.inr (Or.inl rfl) | exact Or.inr (Or.inr rfl)) (hd : (x == ("__debug__" : Str)) = false := by decide) (hcd : (x == ("__classdict__" : Str)) = false := by decide)
    (hs : swapsWith (.Call (.Attribute (.Name x p1) "append" p2) [e] [] p3) none pos.line X.env = pure false := by rfl) (hbase : attributeBase (.Name x p1) "append" X.env (eval (.Name x p1) X.env) = eval (.Name x p1) X.env := by rfl)
    (hfew : ((backTo p3 (starEach (e :: []) X.env)).all (fun x => !x.1) && (backToKw p3 (keywordEach [] X.env)).all (fun x => x.1.isSome) && decide ((e :: ([] : List Expr)).length + ([] : List Keyword).length + (if ([] : List Keyword).isEmpty then 0 else 1) < 30)) = true := by rfl)
    (hline : (p2.endLine == p3.line) = true := by rfl) (hst : starEach (e :: []) X.env = (false, eval e X.env) :: starEach [] X.env := by rfl) (hpl : (backTo p3 (starEach [] X.env)).any (·.1) = false := by rfl) :
    JK X R rk ρ (.Expr (.Call (.Attribute (.Name x p1) "append" p2) [e] [] p3) pos :: rest) κ q (T fun d m => ds.length < sizeLine ∧ k d m) :=
  PSs.imp (pss_cons (ps_expr (pe_bm PySem.F.plainAttrs_list PySem.F.slot_list_append PySem.F.type_list_append mt_append (pe_var (i := i) hN hv hd hcd) (pa_cons he pa_nil hst) hbase hfew hline hst hpl) hs) (pss_any hr)) fun Dn σ H ⟨Gb, G, m, S, g, t, ls⟩ => by
    obtain ⟨l, vs, e1, gl, nv, en, hl, rv⟩ := S.ownT hρ
    refine ⟨.ref l, e1, .inl ⟨rfl, _, .inl (.inl hl)⟩, G, m, _, S, t, fun v d G1 H1 m1 S1 g1 r1 q1 => ?_⟩
    have h1 := g1.hh l _ nv hl
    have rv1 := rv.mono g1.gg
    obtain ⟨S2, gg⟩ := S1.write (vs := vs ++ [v]) hρ e1 (rv1.append (.cons r1 .nil))
    exact ⟨l, vs, v, rfl, rfl, h1, by rw [rv.length]; exact q1.1, d, Gb, G1, m1, S2, gg en (S.tr g g1), q1.2, ls.sm g1.gg⟩
theorem jk_setI {T Ti : M D} (i : Nat) {k : List D → Nat → Prop} (he : JM X R ρ e T) (hi : JM X R ρ ix Ti) (hr : ∀ ds, JK X R rk (ρ.set i (.own ds)) rest κ q (k ds)) (hρ : ρ[i]? = some (.own ds) := by rfl) (hN : X.N[i]? = some x := by rfl)
    (hv : Vis X.env.scope x := by first | exact Or.inl rfl | exact Or.inr (Or.inl rfl) | exact Or.inr (Or.inr rfl)) (hd : (x == ("__debug__" : Str)) = false := by decide) (hcd : (x == ("__classdict__" : Str)) = false := by decide)
    (ha : ∀ v, assign (.Subscript (.Name x p1) ix p2) X.env v = (do
      let ov ← holding [v] (eval (.Name x p1) X.env)
      let iv ← holding [v, ov] (eval ix X.env)
      standAt p2
      holding [v, ov, iv] (setItem ov iv v)
      release [v, ov, iv] []) := by intro _; rfl)
    (hs : swapsWithSole [.Subscript (.Name x p1) ix p2] e pos.line X.env = pure false := by rfl) (hw : swappedStores [.Subscript (.Name x p1) ix p2] e X.env = pure none := by rfl) (h1 : (assignEach [.Subscript (.Name x p1) ix p2] X.env).map (·.2) = [assign (.Subscript (.Name x p1) ix p2) X.env] := by rfl) :
    JK X R rk ρ (.Assign [.Subscript (.Name x p1) ix p2] e pos :: rest) κ q (T fun d => Ti fun z m => ∃ n j, z = .int n ∧ ixN ds.length n = some j ∧ k (ds.set j d) m) :=
  PSs.imp (pss_cons (ps_asg he (pg_sub (pe_var (i := i) hN hv hd hcd) hi set_list ha) hs hw h1) (pss_any hr)) fun Dn σ H ⟨Gb, G, m, S, g, t, ls⟩ => by
    obtain ⟨l, vs, e1, gl, nv, en, hl, rv⟩ := S.ownT hρ
    refine ⟨G, m, _, S, t, fun v d G1 H1 m1 S1 g1 r1 q1 => ⟨.ref l, e1, G1, m1, _, S1, q1, fun w z G2 H2 m2 S2 g2 r2 q2 => ?_⟩⟩
    obtain ⟨n, j, rfl, hj, q2⟩ := q2
    cases r2
    have h2 := g2.hh l _ nv (g1.hh l _ nv hl)
    have rv2 := rv.mono (g1.gg.trans g2.gg)
    obtain ⟨S3, gg⟩ := S2.write (vs := vs.set j v) hρ e1 (rv2.set j (r1.mono g2.gg))
    exact ⟨l, vs, n, j, rfl, rfl, h2, by rw [rv.length]; exact hj, _, Gb, G2, m2, S3, gg en (S1.tr (S.tr g g1) g2), q2, ls.sm (g1.gg.trans g2.gg)⟩
end

inductive CsR (R : Res) (G' H' H0 : Hp) : List V → List Cell → Prop
  | nil : CsR R G' H' H0 [] []
  | dat {v : V} {d : D} {vs : List V} {cs : List Cell} : Rp G' v d → CsR R G' H' H0 vs cs → CsR R G' H' H0 (v :: vs) (.dat d :: cs)
  | own {l : Addr} {ws : HO} {ds : D} {vs : List V} {cs : List Cell} : G' l = none → ¬ R.vol l → R.ent l = none → H' l = some ws → OwnR G' l ws ds → H0 l = none → V.ref l ∉ vs → CsR R G' H' H0 vs cs → CsR R G' H' H0 (.ref l :: vs) (.ow ds :: cs)
def tAc (R : Res) (ρ : List Cell) (n : Nat) (T : M (List Cell)) : TA := fun σ H Q => ∃ G m q, Sit R σ ρ G H m ∧ T q m ∧ ∀ vs cs G' H' m', Sit R σ ρ G' H' m' → Grow R.vol G H G' H' → CsR R G' H' H vs cs → cs.length = n → q cs m' → Q vs H'
def JC (X : Cx) (R : Res) (ρ : List Cell) (es : List Expr) (n : Nat) (T : M (List Cell)) : Prop := PA X es (tAc R ρ n T)
section
variable {R : Res} {G H G' H' H0 H1 : Hp}
theorem CsR.noref {vs : List V} {cs : List Cell} (h : CsR R G' H' H0 vs cs) {l : Addr} (gl : G' l = none) (hl : H0 l ≠ none) : V.ref l ∉ vs := by
  induction h with
  | nil => simp
  | dat r _ ih =>
    intro z
    rcases List.mem_cons.mp z with z | z
    · subst z
      cases r with
      | lst h _ => rw [gl] at h; cases h
      | tup h _ => obtain ⟨_, _, h⟩ := h; rw [gl] at h; cases h
      | dic h _ _ _ => rw [gl] at h; cases h
      | dik h _ _ _ => rw [gl] at h; cases h
    · exact ih z
  | own _ _ _ _ _ h0 _ _ ih =>
    intro z
    rcases List.mem_cons.mp z with z | z
    · cases z
      exact hl h0
    · exact ih z
theorem CsR.back {vs : List V} {cs : List Cell} (h : CsR R G' H' H1 vs cs) (f : ∀ p, H1 p = none → H0 p = none) : CsR R G' H' H0 vs cs := by
  induction h with
  | nil => exact .nil
  | dat r _ ih => exact .dat r ih
  | own a b c d e h0 n _ ih => exact .own a b c d e (f _ h0) n ih
theorem CsR.length {vs : List V} {cs : List Cell} (h : CsR R G' H' H0 vs cs) : vs.length = cs.length := by
  induction h with
  | nil => rfl
  | dat _ _ ih => simp [ih]
  | own _ _ _ _ _ _ _ _ ih => simp [ih]
def setS : List Nat → List V → L2.St → L2.St
  | i :: is, v :: vs, σ => setS is vs (σ.set i (some v))
  | _, _, σ => σ
def setR : List Nat → List Cell → List Cell → List Cell
  | i :: is, c :: cs, ρ => setR is cs (ρ.set i c)
  | _, _, ρ => ρ
theorem Sit.setAll {m : Nat} {vs : List V} {cs : List Cell} (h : CsR R G' H' H0 vs cs) : ∀ {is : List Nat} {σ : L2.St} {ρ : List Cell}, Sit R σ ρ G' H' m →
    (∀ (l : Addr) (j : Nat) (es : D), V.ref l ∈ vs → (G' l = none) → ρ[j]? = some (.ow es) → σ[j]? ≠ some (some (.ref l))) → Sit R (setS is vs σ) (setR is cs ρ) G' H' m := by
  induction h with
  | nil => intro is σ ρ S _; cases is <;> exact S
  | @dat v d vs cs r c ih =>
    intro is σ ρ S f
    cases is with
    | nil => exact S
    | cons i is =>
      refine ih (is := is) (S.setD i r) fun l j es hl gl e => ?_
      obtain ⟨n, e⟩ := own_set (c := .dat d) (fun _ z => nomatch z) e
      rw [List.getElem?_set_ne (Ne.symm n)]
      exact f l j es (List.mem_cons_of_mem _ hl) gl e
  | @own l0 ws d vs cs a b en hd r h0 nv c ih =>
    intro is σ ρ S f
    cases is with
    | nil => exact S
    | cons i is =>
      refine ih (is := is) (S.setW i a b en hd r fun j es e => f l0 j es List.mem_cons_self a e) fun l j es hl gl e => ?_
      by_cases hj : i = j
      · subst hj
        by_cases hlt : i < σ.length
        · rw [List.getElem?_set_self hlt]
          intro z
          have z' : l0 = l := by simpa using z
          subst z'
          exact nv hl
        · rw [List.getElem?_eq_none (by simpa using hlt)]
          exact fun z => nomatch z
      · rw [List.getElem?_set_ne hj] at e ⊢
        exact f l j es (List.mem_cons_of_mem _ hl) gl e
end
section
variable {α : Type} {X : Cx} {R : Res} {rk : RK α} {ρ : List Cell} {rest : List Stmt} {κ : Kt} {q : α → Nat → Prop} {e a b c : Expr} {es : List Expr} {pos : Pos} {n : Nat}
theorem jc_nil : JC X R ρ [] 0 (fun q m => q [] m) := PA.imp pa_nil fun _ H _ ⟨G, m, _, S, t, k⟩ => k _ _ G H m S (Grow.refl _ _ _) .nil rfl t
theorem jc_dat {T : M D} {Ts : M (List Cell)} (ha : JM X R ρ e T) (hs : JC X R ρ es n Ts) (hst : starEach (e :: es) X.env = (false, eval e X.env) :: starEach es X.env := by rfl) :
    JC X R ρ (e :: es) (n + 1) (fun q m => T (fun d m1 => Ts (fun cs m2 => q (.dat d :: cs) m2) m1) m) :=
  PA.imp (pa_cons ha hs hst) fun σ H Q ⟨G, m, q, S, t, k⟩ => ⟨G, m, _, S, t, fun v d G1 H1 m1 S1 g1 r1 q1 => ⟨G1, m1, _, S1, q1, fun vs cs G2 H2 m2 S2 g2 c2 l2 q2 =>
    k _ _ G2 H2 m2 S2 (g1.trans S1.vh g2) (.dat (r1.mono g2.gg) (c2.back fun p h => free_of g1 S1.vh h)) (by simp [l2]) q2⟩⟩
theorem jc_own {T : M (List D)} {Ts : M (List Cell)} (ha : JL X R ρ e T) (hs : JC X R ρ es n Ts) (hst : starEach (e :: es) X.env = (false, eval e X.env) :: starEach es X.env := by rfl) :
    JC X R ρ (e :: es) (n + 1) (fun q m => T (fun ds m1 => Ts (fun cs m2 => q (.own ds :: cs) m2) m1) m) :=
  PA.imp (pa_cons ha hs hst) fun σ H Q ⟨G, m, q, S, t, k⟩ => ⟨G, m, _, S, t, fun p ws ds G1 H1 m1 S1 g1 hp gp hp1 r1 q1 => ⟨G1, m1, _, S1, q1, fun vs cs G2 H2 m2 S2 g2 c2 l2 q2 => by
    have nv : ¬ R.vol p := fun v => S.vh p v hp
    have np : H1 p ≠ none := by rw [hp1]; exact fun z => nomatch z
    have gp2 := g2.new p gp np
    exact k _ _ G2 H2 m2 S2 (g1.trans S1.vh g2) (.own gp2 nv (S.en p hp) (g2.hh p _ nv hp1) (show OwnR G2 p (.lst ws) (.list ds) from ⟨ws, rfl, r1.mono g2.gg⟩) hp (c2.noref gp2 np) (c2.back fun p h => free_of g1 S1.vh h)) (by simp [l2]) q2⟩⟩
theorem par_read {is : List Nat} {Ts : M (List Cell)} {k : List Cell → Nat → Prop} {rs : List Cell → List Stmt} {Dn : Ends} {σ : L2.St} {H : Hp} {Gb G : Hp} {m : Nat} (S : Sit R σ ρ G H m) (g : Grow R.vol Gb R.ent G H) (t : Ts k m) (ls : Ls R rk Gb G κ q Dn)
    {P : List V → Hp → Prop} (fin : ∀ vs cs G1 H1 m1, cs.length = n → vs.length = n → Sit R (setS is vs σ) (setR is cs ρ) G1 H1 m1 → Grow R.vol Gb R.ent G1 H1 → k cs m1 → Ls R rk Gb G1 κ q Dn → P vs H1) : tAc R ρ n Ts σ H P := by
  refine ⟨G, m, _, S, t, fun vs cs G1 H1 m1 S1 g1 c1 l1 q1 => fin vs cs G1 H1 m1 l1 (c1.length.trans l1) (Sit.setAll c1 S1 fun l j es hl gl e z => ?_) (S.tr g g1) q1 (ls.sm g1.gg)⟩
  obtain ⟨l', ws, e2, _, _, _, hl2, _⟩ := S.owT e
  rw [z] at e2
  cases e2
  exact c1.noref gl (by rw [hl2]; exact fun z => nomatch z) hl
/-- both names plain locals -/
theorem jk_par {i j : Nat} {x y : Str} {px py pt pt2 : Pos} {kt k2 : Nat} {Ts : M (List Cell)} {k : List Cell → Nat → Prop} {l : Nat} (B : Bx X l) (ha : JC X R ρ [a, b] 2 Ts) (hij : i ≠ j) (hx : X.env.scope.names.lookup x = some .local) (hy : X.env.scope.names.lookup y = some .local)
    (hw : swappedStores [.Tuple [.Name x px, .Name y py] kt pt] (.Tuple [a, b] k2 pt2) X.env = pure (some [x, y])) (hr : ∀ c d, JK X R rk ((ρ.set i c).set j d) rest κ q (k [c, d])) (hi : X.N[i]? = some x := by rfl) (hj : X.N[j]? = some y := by rfl)
    (hs : swapsWithSole [.Tuple [.Name x px, .Name y py] kt pt] (.Tuple [a, b] k2 pt2) pos.line X.env = pure false := by rfl) : JK X R rk ρ (.Assign [.Tuple [.Name x px, .Name y py] kt pt] (.Tuple [a, b] k2 pt2) pos :: rest) κ q (Ts k) :=
  PSs.imp (pss_cons (ps_par B.hc B.nd hi hj hij hx hy ha hw hs) (pss_any fun z : Cell × Cell => hr z.1 z.2)) fun Dn σ H ⟨Gb, G, m, S, g, t, ls⟩ => par_read (is := [i, j]) (rs := fun _ => rest) S g t ls fun vs cs G1 H1 m1 l1 l2 S1 g1 q1 ls1 => by
    match vs, cs, l1, l2, S1, q1 with
    | [v, w], [c, d], _, _, S1, q1 => exact ⟨v, w, rfl, (c, d), Gb, G1, m1, S1, g1, q1, ls1⟩
/-- names of any kind: a tuple is made and taken apart -/
theorem own_tup {m : Nat} {σ : L2.St} {ρ : List Cell} {G H Gb : Hp} {p : Addr} {o : HO} (S : Sit R σ ρ G H m) (g : Grow R.vol Gb R.ent G H) (hp : H p = none) : Sit R σ ρ G (upd H p o) m ∧ Grow R.vol Gb R.ent G (upd H p o) := by
  obtain ⟨g1, s1⟩ := grow_own S.gh hp o
  obtain ⟨S1, g1'⟩ := S.growS g1 s1
  exact ⟨S1, g.trans S.vh g1'⟩
theorem jk_parC {i j : Nat} {x y : Str} {px py pt pt2 : Pos} {kt k2 : Nat} {Ts : M (List Cell)} {k : List Cell → Nat → Prop} {l : Nat} (B : Bx X l) (ha : JC X R ρ [a, b] 2 Ts) (hr : ∀ c d, JK X R rk ((ρ.set i c).set j d) rest κ q (k [c, d])) (hi : X.N[i]? = some x := by rfl) (hj : X.N[j]? = some y := by rfl)
    (hx : Loc X.env.scope x := by first | exact Or.inl rfl | exact Or.inr rfl) (hy : Loc X.env.scope y := by first | exact Or.inl rfl | exact Or.inr rfl) (fx : X.fn x = true ∨ X.env.scope.names.lookup x = some .local := by first | exact .inl rfl | exact .inr rfl) (fy : X.fn y = true ∨ X.env.scope.names.lookup y = some .local := by first | exact .inl rfl | exact .inr rfl)
    (hn : (assignEach [.Name x px, .Name y py] X.env).length = 2 := by rfl) (hst : (assignEach [.Name x px, .Name y py] X.env).findIdx? (·.1) = none := by rfl)
    (h2 : (assignEach [.Name x px, .Name y py] X.env).map (·.2) = assign (.Name x px) X.env :: (assignEach [.Name y py] X.env).map (·.2) := by rfl) (h3 : (assignEach [.Name y py] X.env).map (·.2) = assign (.Name y py) X.env :: (assignEach [] X.env).map (·.2) := by rfl)
    (hs : swapsWithSole [.Tuple [.Name x px, .Name y py] kt pt] (.Tuple [a, b] k2 pt2) pos.line X.env = pure false := by rfl) (hw : swappedStores [.Tuple [.Name x px, .Name y py] kt pt] (.Tuple [a, b] k2 pt2) X.env = pure none := by rfl)
    (h1 : (assignEach [.Tuple [.Name x px, .Name y py] kt pt] X.env).map (·.2) = [assign (.Tuple [.Name x px, .Name y py] kt pt) X.env] := by rfl) : JK X R rk ρ (.Assign [.Tuple [.Name x px, .Name y py] kt pt] (.Tuple [a, b] k2 pt2) pos :: rest) κ q (Ts k) :=
  PSs.imp (pss_cons (ps_asg (pe_tup ha) (pg_tup B.hc (pgs_cons (pg_name (i := i) B.nd hi hx fx) (pgs_cons (pg_name (i := j) B.nd hj hy fy) pgs_nil h3) h2) hn hst) hs hw h1) (pss_any fun z : Cell × Cell => hr z.1 z.2)) fun Dn σ H ⟨Gb, G, m, S, g, t, ls⟩ =>
    par_read (is := [i, j]) (rs := fun _ => rest) S g t ls fun vs cs G1 H1 m1 l1 l2 S1 g1 q1 ls1 => by
      match vs, cs, l1, l2, S1, q1 with
      | [v, w], [c, d], _, _, S1, q1 =>
        refine ⟨(by show 2 ≤ sizeLine; decide), fun p hp => ⟨p, [v, w], rfl, SqT.of upd_same, rfl, v, [w], rfl, w, [], rfl, rfl, (c, d), Gb, G1, m1, ?_⟩⟩
        obtain ⟨S2, g2⟩ := own_tup (o := .tup [v, w]) S1 g1 hp
        exact ⟨S2, g2, q1, ls1⟩
end

def startC (N : List Str) (ds : List D) : List Cell := ds.map Cell.dat ++ List.replicate (N.length - ds.length) Cell.no
theorem sit_start {N : List Str} {vs : List V} {ds : List D} {G H : Hp} (gh : Same G H) (r : RpL G vs ds) : Sit (Res.pure H) (L2.start N vs) (startC N ds) G H 0 := by
  have hl := r.length
  refine ⟨⟨gh, fun a v => v.elim, fun a v => v.elim, trivial, trivial, fun p h => h⟩, by simp [L2.start, startC, hl], fun i c e => ?_, fun i j es fs l e1 _ _ _ => ?_⟩
  · unfold startC at e
    by_cases hi : i < ds.length
    · rw [List.getElem?_append_left (by simpa using hi), List.getElem?_map, List.getElem?_eq_getElem hi] at e
      cases e
      obtain ⟨v, hv, rv⟩ := r.get (List.getElem?_eq_getElem hi)
      refine ⟨v, ?_, rv⟩
      unfold L2.start
      rw [List.getElem?_append_left (by simp; omega), List.getElem?_map, hv]
      rfl
    · rw [List.getElem?_append_right (by simpa using hi), List.getElem?_replicate] at e
      split at e
      · cases e; trivial
      · cases e
  · unfold startC at e1
    by_cases hi : i < ds.length
    · rw [List.getElem?_append_left (by simpa using hi), List.getElem?_map, List.getElem?_eq_getElem hi] at e1
      cases e1
    · rw [List.getElem?_append_right (by simpa using hi), List.getElem?_replicate] at e1
      split at e1 <;> cases e1
/-- what falls off the end: None, where the answer may be a datum -/
class Falls {α : Type} (rk : RK α) where
  nx : (α → Nat → Prop) → List Cell → (Nat → Prop) → Prop
  ok : ∀ {R : Res} {Gb : Hp} {q : α → Nat → Prop} {P : VK} {ρ' : List Cell} {b : Nat → Prop} {σ' : L2.St} {G' H' : Hp} {m' : Nat}, Rt R rk Gb q P → nx q ρ' b → b m' → Sit R σ' ρ' G' H' m' → Grow R.vol Gb R.ent G' H' → P .non H'
instance : Falls RK.dat := ⟨fun q _ b => ∀ m, b m → q .none m, fun rt h hb S g => rt _ _ _ _ _ S.toSat g .non (h _ hb)⟩
instance : Falls RK.lst := ⟨fun _ _ _ => False, fun _ h _ _ _ => h.elim⟩
def KtF {α : Type} (rk : RK α) [Falls rk] (q : α → Nat → Prop) : Kt := ⟨Falls.nx rk q, fun _ _ => False, fun _ _ => False⟩
section
variable {α : Type} {P : Program} {w : World} {K : PySem.W.Frag} {mg : Str → Option Value} {base : Heap}
/-- the context of a def's body -/
abbrev cxG (P : Program) (w : World) (K : PySem.W.Frag) (mg : Str → Option Value) (base : Heap) (N : List Str) (x : Str) (st : Stmt) (f : Addr) (cdv : Value) (A : Around) (outer : List Env) (s : Shared) (H : Hp) (E : XK) : Cx := (cxOf CX0 P w K mg base N x (defScope st) f cdv A outer s H E).nox
theorem kn_pure {rk : RK α} [Falls rk] {F : List D → Option α} {x : Str} {st : Stmt} {f : Addr} {fd : FuncData} {N ps : List Str} {k n : Nat} (Fn : Fun K x x st f fd) (mx : mg x = some (.ref f)) (bs : Binds K fd ps []) (Sc : FnScope N ps (defScope st)) (hn : ps.length = n)
    (body : ∀ (cdv : Value) (A : Around) (outer : List Env) (s : Shared) (H : Hp) (E : XK), Bx (cxG P w K mg base N x st f cdv A outer s H E) k → ∀ ds : List D, ds.length = n → ∀ a : α,
      JK (cxG P w K mg base N x st f cdv A outer s H E) (Res.pure H) rk (startC N ds) (defBody st) (KtF rk fun a' _ => a' = a) (fun a' _ => a' = a) (fun _ => F ds = some a)) : Kn P w K mg base x (k + 1) (spR rk n F) := by
  refine ⟨f, fd, ps, fn_g Fn Sc (fun vs H Q E h => ?_) (fun cdv A outer s H vs Q E hg hr h => ?_), mx, Fn.kp, bs⟩
  · obtain ⟨G, ds, a, _, r, l, _⟩ := h
    rw [r.length, l, hn]
  · obtain ⟨G, ds, a, gh, r, l, hF, k⟩ := h
    have B : Bx (cxG P w K mg base N x st f cdv A outer s H E) _ := ⟨hr, hg, rfl, Sc.nd, PassesOwn.never⟩
    refine ⟨_, (body cdv A outer s H E B ds l a).nox, G, G, 0, sit_start gh r, Grow.refl _ _ _, hF, ?_, ?_, ?_, ?_⟩
    · rintro v a' G' H' m' S' g' rr rfl
      exact k v G' H' g' S'.gh rr
    · intro ρ' b σ' G' H' m' h hb S' g' _
      exact Falls.ok (R := Res.pure H) (Gb := G) (q := fun a' _ => a' = a) (P := Q) (fun v a' G' H' m' S' g' rr e => by subst e; exact k v G' H' g' S'.gh rr) h hb S' g'
    · intro _ _ _ _ _ _ h; exact h.elim
    · intro _ _ _ _ _ _ h; exact h.elim
/-- where nothing is claimed -/
theorem kn_none {rk : RK α} {F : List D → Option α} {x : Str} {st : Stmt} {f : Addr} {fd : FuncData} {ps : List Str} {k n : Nat} (Fn : Fun K x x st f fd) (mx : mg x = some (.ref f)) (bs : Binds K fd ps []) (h : ∀ ds, F ds = none) : Kn P w K mg base x k (spR rk n F) := by
  have no : ∀ vs H Q E, ¬ spR rk n F vs H Q E := fun vs H Q E ⟨_, ds, _, _, _, _, e, _⟩ => by rw [h] at e; cases e
  exact ⟨f, fd, ps, ⟨fun vs H Q E z => (no vs H Q E z).elim, fun _ _ _ H _ _ vs Q E _ _ _ _ _ z => (no vs H Q E z).elim⟩, mx, Fn.kp, bs⟩
end
end Dl

set_option Elab.async false
set_option linter.all false
set_option autoImplicit false
set_option maxRecDepth 100000
set_option maxHeartbeats 1000000
namespace Dl
open PySem L2

structure KtE (α : Type) where
  nx : List Cell → Option α → Prop
  bk : List Cell → Option α → Prop
  ct : List Cell → Option α → Prop
def KtE.at {α : Type} (κ : KtE α) (a : α) : Kt := ⟨fun ρ b => ∃ o, κ.nx ρ o ∧ ∀ m, b m → o = some a, fun ρ b => ∃ o, κ.bk ρ o ∧ ∀ m, b m → o = some a, fun ρ b => ∃ o, κ.ct ρ o ∧ ∀ m, b m → o = some a⟩
def JKE {α : Type} (X : Cx) (R : Res) (rk : RK α) (ρ : List Cell) (st : List Stmt) (κ : KtE α) (o : Option α) : Prop := ∀ a, JK X R rk ρ st (κ.at a) (fun a' _ => a' = a) (fun _ => o = some a)
def forO {S α : Type} (body : S → D → (S → Option α) → Option α) : List D → S → (S → Option α) → Option α
  | [], s, k => k s
  | d :: ds, s, k => body s d fun s' => forO body ds s' k
def KtLE {S α : Type} (env : S → List Cell) (kk : S → Option α) (bk : List Cell → Option α → Prop) : KtE α :=
  ⟨fun ρ' o => ∃ s', Wk ρ' (env s') ∧ o = kk s', bk, fun ρ' o => ∃ s', Wk ρ' (env s') ∧ o = kk s'⟩
section
variable {α S : Type} {X : Cx} {R : Res} {rk : RK α} {ρ : List Cell} {st : Stmt} {rest body A B' : List Stmt} {κ : KtE α} {e c tg iter : Expr} {pos : Pos}
theorem jk_ex {ι : Type} {κ' : Kt} {q : α → Nat → Prop} {sts : List Stmt} {a : ι → Nat → Prop} (h : ∀ i, JK X R rk ρ sts κ' q (a i)) : JK X R rk ρ sts κ' q (fun m => ∃ i, a i m) :=
  ⟨fun pins s σ H Dn I ⟨Gb, G, m, S, g, ⟨i, t⟩, ls⟩ => (h i).run pins s σ H Dn I ⟨Gb, G, m, S, g, t, ls⟩⟩
theorem JKE.eq {sts : List Stmt} {o o' : Option α} (h : JKE X R rk ρ sts κ o) (k : o = o') : JKE X R rk ρ sts κ o' := by rw [← k]; exact h
theorem jke_nil {o : Option α} (h : κ.nx ρ o) : JKE X R rk ρ [] κ o := fun a => jk_nil ⟨o, h, fun _ z => z⟩
theorem bind_lift {β : Type} {oe : Option β} {k : β → Option α} {a : α} {m : Nat} (h : oe.bind k = some a) : lift oe (fun d _ => k d = some a) m := by
  obtain ⟨d, h1, h2⟩ := Option.bind_eq_some_iff.mp h
  exact ⟨d, h1, h2⟩
theorem jke_st {oe : Option D} {i : Nat} {k : D → Option α} (hs : PS X st (tAsg (tJ R ρ (lift oe)) (gName i))) (hr : ∀ d, JKE X R rk (ρ.set i (.dat d)) rest κ (k d)) : JKE X R rk ρ (st :: rest) κ (oe.bind k) := fun a =>
  (jk_st hs (fun d => hr d a)).imp fun _ h => bind_lift h
theorem jke_stL {oe : Option (List D)} {i : Nat} {k : List D → Option α} (hs : PS X st (tAsg (tL R ρ (lift oe)) (gName i))) (hr : ∀ d, JKE X R rk (ρ.set i (.own d)) rest κ (k d)) : JKE X R rk ρ (st :: rest) κ (oe.bind k) := fun a =>
  (jk_stL hs (fun d => hr d a)).imp fun _ h => bind_lift h
theorem PS.tj {T T' : M D} {i : Nat} (hs : PS X st (tAsg (tJ R ρ T) (gName i))) (k : ∀ q m, T' q m → T q m) : PS X st (tAsg (tJ R ρ T') (gName i)) := PS.imp hs fun _ _ _ ⟨G, m, q, S, t, c⟩ => ⟨G, m, q, S, k q m t, c⟩
theorem PS.tl {T T' : M (List D)} {i : Nat} (hs : PS X st (tAsg (tL R ρ T) (gName i))) (k : ∀ q m, T' q m → T q m) : PS X st (tAsg (tL R ρ T') (gName i)) := PS.imp hs fun _ _ _ ⟨G, m, q, S, t, c⟩ => ⟨G, m, q, S, k q m t, c⟩
/-- a new list that all may know -/
theorem ste_shr {oe : Option (List D)} {i : Nat} (h : PS X st (tAsg (tL R ρ (lift oe)) (gName i))) : PS X st (tAsg (tJ R ρ (lift (oe.map PyData.list))) (gName i)) := PS.tj (st_shr h) fun q m ⟨z, h1, h2⟩ => by
  obtain ⟨ds, h3, rfl⟩ := Option.map_eq_some_iff.mp h1
  exact ⟨ds, h3, h2⟩
theorem jke_ret {o : Option D} {κ : KtE D} (he : JE X R ρ e o) : JKE X R .dat ρ (.Return (some e) pos :: rest) κ o := fun a => (jk_ret he).imp fun _ h => ⟨a, h, rfl⟩
theorem jke_retL {o : Option (List D)} {κ : KtE (List D)} (he : JLE X R ρ e o) : JKE X R .lst ρ (.Return (some e) pos :: rest) κ o := fun a => (jk_retL he).imp fun _ h => ⟨a, h, rfl⟩
def KtIE (X : Cx) (R : Res) (rk : RK α) (rest : List Stmt) (κ : KtE α) : KtE α := ⟨fun ρ' o => JKE X R rk ρ' rest κ o, κ.bk, κ.ct⟩
theorem at_nx {a : α} (ρ' : List Cell) (b : Nat → Prop) (h : ∃ o, JKE X R rk ρ' rest κ o ∧ ∀ m, b m → o = some a) : JK X R rk ρ' rest (κ.at a) (fun a' _ => a' = a) b := by
  obtain ⟨o, h1, h2⟩ := h
  exact (h1 a).imp h2
theorem jke_if {oc : Option Bool} {oA oB : Option α} (hc : JTE X R ρ c oc) (hA : JKE X R rk ρ A (KtIE X R rk rest κ) oA) (hB : JKE X R rk ρ B' (KtIE X R rk rest κ) oB) : JKE X R rk ρ (.If c A B' pos :: rest) κ (ifO oc oA oB) := fun a =>
  (jk_if hc ((hA a).kmono at_nx (fun _ _ h => h) fun _ _ h => h) ((hB a).kmono at_nx (fun _ _ h => h) fun _ _ h => h)).imp fun _ h => by
    obtain ⟨t, h1, h2⟩ := Option.bind_eq_some_iff.mp h
    refine ⟨t, h1, ?_⟩
    cases t <;> exact h2
theorem jke_un2 {oe : Option D} {i j : Nat} {k : D → D → Option α} (he : JE X R ρ e oe) (hg : JG X R tg [i, j] (bdT [i, j])) (hr : ∀ a b, JKE X R rk ((ρ.set i (.dat a)).set j (.dat b)) rest κ (k a b))
    (hs : swapsWithSole [tg] e pos.line X.env = pure false := by rfl) (hw : swappedStores [tg] e X.env = pure none := by rfl) (h1 : (assignEach [tg] X.env).map (·.2) = [assign tg X.env] := by rfl) : JKE X R rk ρ (.Assign [tg] e pos :: rest) κ (oe.bind fun d => un2 d k) := fun a =>
  (jk_un2 he hg (fun x y => hr x y a) hs hw h1).imp fun _ h => by
    obtain ⟨d, h1, h2⟩ := Option.bind_eq_some_iff.mp h
    refine ⟨d, h1, ?_⟩
    match d, h2 with
    | .tuple [x, y], h2 => exact h2
def appO (ds : List D) (oe : Option D) (k : List D → Option α) : Option α := oe.bind fun d => if ds.length < sizeLine then k (ds ++ [d]) else none
theorem jke_app {oe : Option D} (i : Nat) {x : Str} {ds : List D} {p1 p2 p3 : Pos} {k : List D → Option α} (he : JE X R ρ e oe) (hr : ∀ ds, JKE X R rk (ρ.set i (.own ds)) rest κ (k ds)) (hρ : ρ[i]? = some (.own ds) := by rfl) (hN : X.N[i]? = some x := by rfl)
    (hv : Vis X.env.scope x := by first | exact Or.inl rfl | exact Or.inr (Or.inl rfl) | exact Or.inr (Or.inr rfl)) (hd : (x == ("__debug__" : Str)) = false := by decide) (hcd : (x == ("__classdict__" : Str)) = false := by decide)
    (hs : swapsWith (.Call (.Attribute (.Name x p1) "append" p2) [e] [] p3) none pos.line X.env = pure false := by rfl) (hbase : attributeBase (.Name x p1) "append" X.env (eval (.Name x p1) X.env) = eval (.Name x p1) X.env := by rfl)
    (hfew : ((backTo p3 (starEach (e :: []) X.env)).all (fun x => !x.1) && (backToKw p3 (keywordEach [] X.env)).all (fun x => x.1.isSome) && decide ((e :: ([] : List Expr)).length + ([] : List Keyword).length + (if ([] : List Keyword).isEmpty then 0 else 1) < 30)) = true := by rfl)
    (hline : (p2.endLine == p3.line) = true := by rfl) (hst : starEach (e :: []) X.env = (false, eval e X.env) :: starEach [] X.env := by rfl) (hpl : (backTo p3 (starEach [] X.env)).any (·.1) = false := by rfl) :
    JKE X R rk ρ (.Expr (.Call (.Attribute (.Name x p1) "append" p2) [e] [] p3) pos :: rest) κ (appO ds oe k) := fun a =>
  (jk_app i he (fun d => hr _ a) hρ hN hv hd hcd hs hbase hfew hline hst hpl).imp fun _ h => by
    obtain ⟨d, h1, h2⟩ := Option.bind_eq_some_iff.mp h
    by_cases z : ds.length < sizeLine
    · rw [if_pos z] at h2
      exact ⟨d, h1, z, h2⟩
    · rw [if_neg z] at h2; cases h2
def setIO (ds : List D) (oe oi : Option D) (k : List D → Option α) : Option α := oe.bind fun d => oi.bind fun z => match z with
  | .int n => (ixN ds.length n).bind fun j => k (ds.set j d)
  | _ => none
theorem jke_setI {oe oi : Option D} {ix : Expr} (i : Nat) {x : Str} {ds : List D} {p1 p2 : Pos} {k : List D → Option α} (he : JE X R ρ e oe) (hi : JE X R ρ ix oi) (hr : ∀ ds, JKE X R rk (ρ.set i (.own ds)) rest κ (k ds)) (hρ : ρ[i]? = some (.own ds) := by rfl) (hN : X.N[i]? = some x := by rfl)
    (hv : Vis X.env.scope x := by first | exact Or.inl rfl | exact Or.inr (Or.inl rfl) | exact Or.inr (Or.inr rfl)) (hd : (x == ("__debug__" : Str)) = false := by decide) (hcd : (x == ("__classdict__" : Str)) = false := by decide)
    (ha : ∀ v, assign (.Subscript (.Name x p1) ix p2) X.env v = (do
      let ov ← holding [v] (eval (.Name x p1) X.env)
      let iv ← holding [v, ov] (eval ix X.env)
      standAt p2
      holding [v, ov, iv] (setItem ov iv v)
      release [v, ov, iv] []) := by intro _; rfl)
    (hs : swapsWithSole [.Subscript (.Name x p1) ix p2] e pos.line X.env = pure false := by rfl) (hw : swappedStores [.Subscript (.Name x p1) ix p2] e X.env = pure none := by rfl) (h1 : (assignEach [.Subscript (.Name x p1) ix p2] X.env).map (·.2) = [assign (.Subscript (.Name x p1) ix p2) X.env] := by rfl) :
    JKE X R rk ρ (.Assign [.Subscript (.Name x p1) ix p2] e pos :: rest) κ (setIO ds oe oi k) := fun a =>
  (jk_setI i he hi (fun d => hr d a) hρ hN hv hd hcd ha hs hw h1).imp fun _ h => by
    obtain ⟨d, h1, h2⟩ := Option.bind_eq_some_iff.mp h
    obtain ⟨z, h3, h4⟩ := Option.bind_eq_some_iff.mp h2
    refine ⟨d, h1, z, h3, ?_⟩
    match z, h4 with
    | .int n, h4 =>
      obtain ⟨j, h5, h6⟩ := Option.bind_eq_some_iff.mp h4
      exact ⟨n, j, rfl, h5, h6⟩
/-- a, b = x, y -/
abbrev JCE (X : Cx) (R : Res) (ρ : List Cell) (es : List Expr) (n : Nat) (o : Option (List Cell)) : Prop := JC X R ρ es n (lift o)
theorem jce_nil : JCE X R ρ [] 0 (some []) := PA.imp jc_nil fun _ _ _ ⟨G, m, q, S, t, c⟩ => ⟨G, m, q, S, lift_some' t, c⟩
theorem JC.imp {es : List Expr} {n : Nat} {T T' : M (List Cell)} (h : JC X R ρ es n T) (k : ∀ q m, T' q m → T q m) : JC X R ρ es n T' := PA.imp h fun _ _ _ ⟨G, m, q, S, t, c⟩ => ⟨G, m, q, S, k q m t, c⟩
def consD (oa : Option D) (os : Option (List Cell)) : Option (List Cell) := oa.bind fun d => os.bind fun cs => some (.dat d :: cs)
theorem jce_dat {es : List Expr} {n : Nat} {oa : Option D} {os : Option (List Cell)} (ha : JE X R ρ e oa) (hs : JCE X R ρ es n os) (hst : starEach (e :: es) X.env = (false, eval e X.env) :: starEach es X.env := by rfl) : JCE X R ρ (e :: es) (n + 1) (consD oa os) :=
  (jc_dat ha hs hst).imp fun q m h => by
    obtain ⟨x, h1, h2⟩ := lift1 h
    obtain ⟨xs, h3, h4⟩ := lift1 h2
    exact ⟨x, h1, xs, h3, lift_some' h4⟩
/-- a cell by its kind -/
def onD (k : D → Option α) : Cell → Option α
  | .dat d => k d
  | _ => none
def cel2 (k : Cell → Cell → Option α) : List Cell → Option α
  | [c, d] => k c d
  | _ => none
theorem jke_onD {c : Cell} {k : D → Option α} {sts : List Stmt} {f : Cell → List Cell} (h : ∀ d, JKE X R rk (f (.dat d)) sts κ (k d)) : JKE X R rk (f c) sts κ (onD k c) := by
  cases c with
  | dat d => exact h d
  | _ => intro a; exact ⟨fun _ _ _ _ _ _ ⟨_, _, _, _, _, t, _⟩ => nomatch t⟩
variable {a b c' : Expr}
theorem jke_par {i j : Nat} {x y : Str} {px py pt pt2 : Pos} {kt k2 : Nat} {os : Option (List Cell)} {k : Cell → Cell → Option α} {l : Nat} (B : Bx X l) (ha : JCE X R ρ [a, b] 2 os) (hr : ∀ c d, JKE X R rk ((ρ.set i c).set j d) rest κ (k c d)) (hij : i ≠ j := by decide) (hx : X.env.scope.names.lookup x = some .local := by rfl) (hy : X.env.scope.names.lookup y = some .local := by rfl)
    (hw : swappedStores [.Tuple [.Name x px, .Name y py] kt pt] (.Tuple [a, b] k2 pt2) X.env = pure (some [x, y]) := by rfl) (hi : X.N[i]? = some x := by rfl) (hj : X.N[j]? = some y := by rfl)
    (hs : swapsWithSole [.Tuple [.Name x px, .Name y py] kt pt] (.Tuple [a, b] k2 pt2) pos.line X.env = pure false := by rfl) : JKE X R rk ρ (.Assign [.Tuple [.Name x px, .Name y py] kt pt] (.Tuple [a, b] k2 pt2) pos :: rest) κ (os.bind (cel2 k)) := fun v =>
  (jk_par (k := fun cs _ => cel2 k cs = some v) B ha hij hx hy hw (fun c d => hr c d v) hi hj hs).imp fun _ h => bind_lift h
variable {env : S → List Cell} {s0 : S} {k : S → Option α}
theorem forO_K {bodyO : S → D → (S → Option α) → Option α} {a : α} {m : Nat} : ∀ {ds : List D} {s : S} {k : S → Option α} {kM : S → Nat → Prop}, (∀ s m, k s = some a → kM s m) → forO bodyO ds s k = some a →
    forK (fun s d kkM _ => ∃ kk : { kk : S → Option α // ∀ s' m, kk s' = some a → kkM s' m }, bodyO s d kk.1 = some a) ds s kM m
  | [], s, k, kM, hk, h => hk s m h
  | d :: ds, s, k, kM, hk, h => by
    refine ⟨⟨fun s' => forO bodyO ds s' k, fun s' m' h' => ?_⟩, h⟩
    exact forO_K (m := m') hk h'
theorem loop_k {kkM : S → Nat → Prop} {a : α} {sts : List Stmt} {o : Option α} (kk : { kk : S → Option α // ∀ s' m, kk s' = some a → kkM s' m }) (h : JKE X R rk ρ sts (KtLE env kk.1 fun ρ' o => JKE X R rk ρ' rest κ o) o) :
    JK X R rk ρ sts (KtL env kkM fun ρ' b => JK X R rk ρ' rest (κ.at a) (fun a' _ => a' = a) b) (fun a' _ => a' = a) (fun _ => o = some a) :=
  (h a).kmono (fun ρ' b ⟨o, ⟨s', w, e⟩, hb⟩ => ⟨s', w, fun m hm => kk.2 s' m (by rw [← e]; exact hb m hm)⟩) (fun ρ' b h => at_nx ρ' b h) fun ρ' b ⟨o, ⟨s', w, e⟩, hb⟩ => ⟨s', w, fun m hm => kk.2 s' m (by rw [← e]; exact hb m hm)⟩
theorem jke_for1 {oi : Option (List D)} {i n : Nat} {bodyO : S → D → (S → Option α) → Option α} (B : Bx X n) (hi : JIE X R ρ tg iter oi) (hg : JG X R tg [i] (bd1 i)) (w0 : Wk ρ (env s0))
    (hb : ∀ (s : S) (d : D) (kk : S → Option α), JKE X R rk ((env s).set i (.dat d)) body (KtLE env kk fun ρ' o => JKE X R rk ρ' rest κ o) (bodyO s d kk)) (hr : ∀ s, JKE X R rk (env s) rest κ (k s)) (hs : ∀ x, foldedSetIterable iter X.env x = pure x := by intro _; rfl) :
    JKE X R rk ρ (.For tg iter body [] pos :: rest) κ (oi.bind fun ds => forO bodyO ds s0 k) := fun a =>
  (jk_for (env := env) (s0 := s0) (k := fun s _ => k s = some a) (bodyM := fun s d kkM _ => ∃ kk : { kk : S → Option α // ∀ s' m, kk s' = some a → kkM s' m }, bodyO s d kk.1 = some a) B hi hg w0
    (fun s d kkM m h => ⟨_, rfl, jk_ex fun kk => loop_k kk (hb s d kk.1)⟩) (fun s => hr s a) hs).imp fun m h => by
      obtain ⟨ds, h1, h2⟩ := Option.bind_eq_some_iff.mp h
      exact ⟨ds, h1, forO_K (fun _ _ z => z) h2⟩
theorem jke_for2 {oi : Option (List D)} {i j n : Nat} {bodyO : S → D → D → (S → Option α) → Option α} (B : Bx X n) (hi : JIE X R ρ tg iter oi) (hg : JG X R tg [i, j] (bdT [i, j])) (w0 : Wk ρ (env s0))
    (hb : ∀ (s : S) (d e : D) (kk : S → Option α), JKE X R rk (((env s).set i (.dat d)).set j (.dat e)) body (KtLE env kk fun ρ' o => JKE X R rk ρ' rest κ o) (bodyO s d e kk)) (hr : ∀ s, JKE X R rk (env s) rest κ (k s)) (hs : ∀ x, foldedSetIterable iter X.env x = pure x := by intro _; rfl) :
    JKE X R rk ρ (.For tg iter body [] pos :: rest) κ (oi.bind fun ds => forO (fun s d kk => un2 d fun x y => bodyO s x y kk) ds s0 k) := fun a =>
  (jk_for (env := env) (s0 := s0) (k := fun s _ => k s = some a) (bodyM := fun s d kkM _ => ∃ kk : { kk : S → Option α // ∀ s' m, kk s' = some a → kkM s' m }, (un2 d fun x y => bodyO s x y kk.1) = some a) B hi hg w0
    (fun s d kkM m h => by
      obtain ⟨kk, h⟩ := h
      match d, h with
      | .tuple [x, y], h => exact ⟨_, rfl, jk_ex fun kk => loop_k kk (hb s x y kk.1)⟩) (fun s => hr s a) hs).imp fun m h => by
      obtain ⟨ds, h1, h2⟩ := Option.bind_eq_some_iff.mp h
      exact ⟨ds, h1, forO_K (bodyO := fun s d kk => un2 d fun x y => bodyO s x y kk) (fun _ _ z => z) h2⟩
end
def KtFL : KtE (List D) := ⟨fun _ _ => False, fun _ _ => False, fun _ _ => False⟩
def KtFD : KtE D := ⟨fun _ o => o = some .none, fun _ _ => False, fun _ _ => False⟩
section
variable {P : Program} {w : World} {K : PySem.W.Frag} {mg : Str → Option Value} {base : Heap}
theorem kn_dat {F : List D → Option D} {x : Str} {st : Stmt} {f : Addr} {fd : FuncData} {N ps : List Str} {k n : Nat} (Fn : Fun K x x st f fd) (mx : mg x = some (.ref f)) (bs : Binds K fd ps []) (Sc : FnScope N ps (defScope st)) (hn : ps.length = n)
    (body : ∀ (cdv : Value) (A : Around) (outer : List Env) (s : Shared) (H : Hp) (E : XK), Bx (cxG P w K mg base N x st f cdv A outer s H E) k → ∀ ds : List D, ds.length = n → JKE (cxG P w K mg base N x st f cdv A outer s H E) (Res.pure H) .dat (startC N ds) (defBody st) KtFD (F ds)) : Kn P w K mg base x (k + 1) (spR .dat n F) :=
  kn_pure Fn mx bs Sc hn fun cdv A outer s H E B ds hl a => (body cdv A outer s H E B ds hl a).kmono (fun ρ b ⟨o, e, h⟩ m hb => by
    have h := h m hb
    rw [show o = some .none from e] at h
    exact Option.some.inj h) (fun _ _ ⟨_, h, _⟩ => h) fun _ _ ⟨_, h, _⟩ => h
end
end Dl

set_option Elab.async false
set_option linter.all false
set_option autoImplicit false
set_option maxRecDepth 100000
set_option maxHeartbeats 4000000
namespace Dl
open PySem L2 PySem.Spec PyProof.Rows
abbrev zipRecM (TI TO : Addr) (f0 : Value) : Obj := { cls := .type "zip", dict := none, data := .fields #[f0, .bool false, .bool false, .ref TI, .ref TO], slots := #[] }
abbrev hm1 (h : Heap) (l1 : Addr) : Heap := h.push { cls := .type "list_iterator", data := .fields #[.ref l1, .int 0 0] }
abbrev hm2 (h : Heap) (l1 l2 : Addr) : Heap := (hm1 h l1).push { cls := .type "tuple_iterator", data := .fields #[.ref l2, .int 0 0] }
abbrev hm3 (h : Heap) (l1 l2 : Addr) : Heap := (hm2 h l1 l2).push { cls := .type "tuple", data := .seq #[.ref h.objs.size, .ref (hm1 h l1).objs.size] }
abbrev hm4 (h : Heap) (l1 l2 : Addr) : Heap := (hm3 h l1 l2).push { cls := .type "tuple", data := .seq #[.none, .none] }
abbrev hm5 (h : Heap) (l1 l2 : Addr) : Heap := (hm4 h l1 l2).push (zipRecM (hm2 h l1 l2).objs.size (hm3 h l1 l2).objs.size .none)
theorem zm_made (l1 l2 : Addr) (xs ys : Array Value) :
    Meets (Builtin.«zip.__new__» ⟨[.type "zip", .ref l1, .ref l2], []⟩) (fun _ R s => s.heap.IsList l1 xs ∧ s.heap.IsTuple l2 ys ∧ R (.ok (.ret (.ref (hm4 s.heap l1 l2).objs.size))) { s with heap := hm5 s.heap l1 l2 }) :=
  .of_wp fun prog w A R s h => by
    obtain ⟨hp, g, d, tk, os⟩ := s
    obtain ⟨t1, t2, h⟩ := h
    have hsub := sub_zip
    have u1 : Heap.IsList (Shared.heap ⟨hp, g, d, tk, os⟩) l1 xs := t1
    have u2 : Heap.IsTuple (Shared.heap ⟨hm1 hp l1, g, d, tk, os⟩) l2 ys := Heap.IsTuple.push t2 _
    wp_walk using wpAny_pyIter_list u1, wpAny_pyIter_tuple u2
    exact ⟨_, rfl, h⟩
section
variable {prog : Program} {w : World} {A : Around} {E : Value → Shared → Prop} {s : Shared}
theorem call_zm {l1 l2 : Addr} {xs ys : Array Value} {Q : Value → Shared → Prop} (t1 : s.heap.IsList l1 xs) (t2 : s.heap.IsTuple l2 ys)
    (h : ∀ h', IsZip h' (s.heap.objs.size + 4) (s.heap.objs.size + 2) (s.heap.objs.size + 3) .none → IsPair h' (s.heap.objs.size + 2) (.ref s.heap.objs.size) (.ref (s.heap.objs.size + 1)) → IsPair h' (s.heap.objs.size + 3) .none .none →
      h'.IsListIter s.heap.objs.size l1 0 → h'.IsTupleIter (s.heap.objs.size + 1) l2 0 → (∀ c o, s.heap.get? c = some o → h'.get? c = some o) → Q (.ref (s.heap.objs.size + 4)) { s with heap := h' }) :
    wpAny (model prog w) A (call (.type "zip") [.ref l1, .ref l2]) Q E s := by
  refine callType_new F.called_zip (by decide) (F.typeCall_zip_2 _ _) (F.newCall_zip_2 _ _) (fun obj => F.args_object_init_3 obj _ _) F.entry_zip_new
    (zm_made l1 l2 xs ys) ⟨t1, t2, ?_⟩
  have n1 : (hm1 s.heap l1).objs.size = s.heap.objs.size + 1 := Heap.size_push ..
  have n2 : (hm2 s.heap l1 l2).objs.size = s.heap.objs.size + 2 := by rw [Heap.size_push, n1]
  have n3 : (hm3 s.heap l1 l2).objs.size = s.heap.objs.size + 3 := by rw [Heap.size_push, n2]
  have n4 : (hm4 s.heap l1 l2).objs.size = s.heap.objs.size + 4 := by rw [Heap.size_push, n3]
  have g5 : (hm5 s.heap l1 l2).get? (hm4 s.heap l1 l2).objs.size = some (zipRecM (hm2 s.heap l1 l2).objs.size (hm3 s.heap l1 l2).objs.size .none) := Heap.get?_push_size _ rfl
  have g4 : (hm5 s.heap l1 l2).get? (hm3 s.heap l1 l2).objs.size = some { cls := .type "tuple", data := .seq #[.none, .none] } := Heap.get?_push_of_some _ (Heap.get?_push_size _ rfl)
  have g3 : (hm5 s.heap l1 l2).get? (hm2 s.heap l1 l2).objs.size = some { cls := .type "tuple", data := .seq #[.ref s.heap.objs.size, .ref (hm1 s.heap l1).objs.size] } := Heap.get?_push_of_some _ (Heap.get?_push_of_some _ (Heap.get?_push_size _ rfl))
  have g2 : (hm5 s.heap l1 l2).get? (hm1 s.heap l1).objs.size = some { cls := .type "tuple_iterator", data := .fields #[.ref l2, .int 0 0] } := Heap.get?_push_of_some _ (Heap.get?_push_of_some _ (Heap.get?_push_of_some _ (Heap.get?_push_size _ rfl)))
  have g1 : (hm5 s.heap l1 l2).get? s.heap.objs.size = some { cls := .type "list_iterator", data := .fields #[.ref l1, .int 0 0] } := Heap.get?_push_of_some _ (Heap.get?_push_of_some _ (Heap.get?_push_of_some _ (Heap.get?_push_of_some _ (Heap.get?_push_size _ rfl))))
  have keep : ∀ c o, s.heap.get? c = some o → (hm5 s.heap l1 l2).get? c = some o := fun c o q => Heap.get?_push_of_some _ (Heap.get?_push_of_some _ (Heap.get?_push_of_some _ (Heap.get?_push_of_some _ (Heap.get?_push_of_some _ q))))
  show _ ∧ _
  rw [n2, n3, n4] at g5
  rw [n1, n2] at g3
  rw [n3] at g4
  rw [n1] at g2
  rw [n4]
  exact ⟨⟨_, g5, rfl⟩, h _ g5 g3 g4 ⟨_, g1, rfl, rfl⟩ ⟨_, g2, rfl, rfl⟩ keep⟩
variable {z TI TO i1 i2 l1 l2 : Addr} {k : Nat} {xs ys : Array Value} {x y a b : Value}
theorem zm_item (D : ZipApart z TI TO i1 i2 l1 l2) (hz : IsZip s.heap z TI TO .none) (hTI : IsPair s.heap TI (.ref i1) (.ref i2)) (hTO : IsPair s.heap TO a b) (h1 : s.heap.IsListIter i1 l1 k) (h2 : s.heap.IsTupleIter i2 l2 k) (t1 : s.heap.IsList l1 xs) (t2 : s.heap.IsTuple l2 ys)
    (hx : xs[k]? = some x) (hy : ys[k]? = some y) {Q : Value → Shared → Prop}
    (fin : ∀ h', IsZip h' z TI TO (rawInt s.heap.objs.size) → IsPair h' TO x y → h'.IsListIter i1 l1 (k + 1) → h'.IsTupleIter i2 l2 (k + 1) → IsPair h' s.heap.objs.size x y →
      (∀ c o, c ≠ z → c ≠ TO → c ≠ i1 → c ≠ i2 → s.heap.get? c = some o → h'.get? c = some o) → Q (.ref s.heap.objs.size) { s with heap := h' }) :
    wpAny (model prog w) A (Builtin.«zip.__next__» ⟨[.ref z], []⟩) (fun f s' => ∃ v, f = .done (.ret v) ∧ Q v s') E s := by
  refine wpAny_bind (m := field (.ref z) 2) (wpAny_field hz rfl (x := .bool false) rfl ?_)
  refine wpAny_bind (m := field (.ref z) 3) (wpAny_field hz rfl (x := .ref TI) rfl (wpAny_bind (wpAny_seqItems hTI rfl ?_)))
  refine wpAny_bind (m := Builtin.SmallTypes.ownedTupleIsFree (.ref z)) ?_
  unfold Builtin.SmallTypes.ownedTupleIsFree
  refine wpAny_bind (wpAny_field hz rfl (x := .none) rfl (wpAny_pure ?_))
  simp only [if_true]
  refine wpAny_bind (wpAny_rule (wpAny_bind (wpAny_field hz rfl (x := .ref TO) rfl (wpAny_bind (wpAny_setField_rec hz (by simp) fun hA zA sA => ?_)))))
  replace zA : IsZip hA z TI TO .ellipsis := zA
  refine wpAny_bind ?_
  simp only [List.zipIdx_cons, List.zipIdx_nil, List.forIn_cons, List.forIn_nil]
  -- the first one's item
  refine wpAny_bind (wpAny_bind (wpAny_onRaise (?_ : wpAny _ _ (Builtin.SmallTypes.nextOf (.ref i1) >>= _) _ _ _)))
  refine wpAny_bind (wpAny_nextOf_list_item (h1.extBut sA.extBut D.i1z) (t1.extBut sA.extBut D.l1z) hx fun hB jB sB => wpAny_pure ?_)
  have pB : IsPair hB TO a b := sB.extBut _ _ D.TOi1 (sA.extBut _ _ D.TOz hTO)
  refine wpAny_bind (wpAny_seqItems pB rfl (wpAny_bind (wpAny_updateSeq_pair pB fun hC pC sC => wpAny_bind (wpAny_letGo (wpAny_pure ?_)))))
  replace pC : IsPair hC TO x b := pC
  -- the second one's
  refine wpAny_bind (wpAny_bind (wpAny_onRaise (?_ : wpAny _ _ (Builtin.SmallTypes.nextOf (.ref i2) >>= _) _ _ _)))
  refine wpAny_bind (RZ.nextOf_tuple_item (((h2.extBut sA.extBut D.i2z).extBut sB.extBut D.i12.symm).extBut sC.extBut D.TOi2.symm) (((t2.extBut sA.extBut D.l2z).extBut sB.extBut D.l2i1).extBut sC.extBut D.l2TO) hy fun hD jD sD => wpAny_pure ?_)
  have pD : IsPair hD TO x b := sD.extBut _ _ D.TOi2 pC
  refine wpAny_bind (wpAny_seqItems pD rfl (wpAny_bind (wpAny_updateSeq_pair pD fun hE' pE sE => wpAny_bind (wpAny_letGo (wpAny_pure (wpAny_pure ?_))))))
  replace pE : IsPair hE' TO x y := pE
  refine wpAny_bind (wpAny_seqItems pE rfl (wpAny_bind (wpAny_newTuple ?_)))
  -- how the heap stands
  have size : hE'.objs.size = s.heap.objs.size := by rw [sE.1, sD.1, sC.1, sB.1, sA.1]
  have zE : IsZip hE' z TI TO .ellipsis := sE.extBut _ _ D.TOz.symm (sD.extBut _ _ D.i2z.symm (sC.extBut _ _ D.TOz.symm (sB.extBut _ _ D.i1z.symm zA)))
  have keep : ∀ c o, c ≠ z → c ≠ TO → c ≠ i1 → c ≠ i2 → s.heap.get? c = some o → hE'.get? c = some o := fun c o n1 n2 n3 n4 q => sE.extBut _ _ n2 (sD.extBut _ _ n4 (sC.extBut _ _ n2 (sB.extBut _ _ n3 (sA.extBut _ _ n1 q))))
  have j1 : hE'.IsListIter i1 l1 (k + 1) := ((jB.extBut sC.extBut D.TOi1.symm).extBut sD.extBut D.i12).extBut sE.extBut D.TOi1.symm
  have j2 : hE'.IsTupleIter i2 l2 (k + 1) := jD.extBut sE.extBut D.TOi2.symm
  have low : z < hE'.objs.size := Heap.lt_size zE
  refine wpAny_bind (m := Builtin.SmallTypes.ownedTupleHandOut (.ref z) (.ref hE'.objs.size)) ?_
  unfold Builtin.SmallTypes.ownedTupleHandOut
  refine wpAny_bind (wpAny_setField_rec (Heap.get?_push_of_some _ zE : (hE'.push { cls := .type "tuple", data := .seq #[x, y] }).get? z = some (zipRecM TI TO .ellipsis)) (by simp) fun hF zF sF => ?_)
  replace zF : IsZip hF z TI TO (rawInt hE'.objs.size) := zF
  refine wpAny_setField_rec zF (by simp) fun hG zG sG => ?_
  replace zG : IsZip hG z TI TO (rawInt hE'.objs.size) := zG
  have up : ∀ c o, c ≠ z → hE'.get? c = some o → hG.get? c = some o := fun c o n q => sG.extBut _ _ n (sF.extBut _ _ n (Heap.get?_push_of_some _ q))
  have new : IsPair hG hE'.objs.size x y := sG.extBut _ _ (Nat.ne_of_gt low) (sF.extBut _ _ (Nat.ne_of_gt low) (Heap.get?_push_size _ rfl))
  rw [size] at zG new
  refine wpAny_pure ⟨_, rfl, (?_ : Q (.ref hE'.objs.size) _)⟩
  rw [size]
  exact fin hG zG (up _ _ D.TOz pE) (j1.at fun o q => up _ o D.i1z q) (j2.at fun o q => up _ o D.i2z q) new fun c o n1 n2 n3 n4 q => up c o n1 (keep c o n1 n2 n3 n4 q)
theorem zm_end (hh : A.handled = none) (D : ZipApart z TI TO i1 i2 l1 l2) (hz : IsZip s.heap z TI TO .none) (hTI : IsPair s.heap TI (.ref i1) (.ref i2)) (h1 : s.heap.IsListIter i1 l1 k) (t1 : s.heap.IsList l1 xs)
    (hTO : IsPair s.heap TO a b) (hx : xs[k]? = none) {Q : PySem.Fin → Shared → Prop}
    (hE : ∀ h' e, (∀ c o, c ≠ z → c ≠ TO → c ≠ i1 → c ≠ i2 → s.heap.get? c = some o → h'.get? c = some o) → (∃ o, h'.get? e = some o ∧ o.cls = .type "StopIteration") → E (.ref e) { s with heap := h' }) :
    wpAny (model prog w) A (Builtin.«zip.__next__» ⟨[.ref z], []⟩) Q E s := by
  refine wpAny_bind (m := field (.ref z) 2) (wpAny_field hz rfl (x := .bool false) rfl ?_)
  refine wpAny_bind (m := field (.ref z) 3) (wpAny_field hz rfl (x := .ref TI) rfl (wpAny_bind (wpAny_seqItems hTI rfl ?_)))
  refine wpAny_bind (m := Builtin.SmallTypes.ownedTupleIsFree (.ref z)) ?_
  unfold Builtin.SmallTypes.ownedTupleIsFree
  refine wpAny_bind (wpAny_field hz rfl (x := .none) rfl (wpAny_pure ?_))
  simp only [if_true]
  refine wpAny_bind (wpAny_rule (wpAny_bind (wpAny_field hz rfl (x := .ref TO) rfl (wpAny_bind (wpAny_setField_rec hz (by simp) fun hA zA sA => ?_)))))
  replace zA : IsZip hA z TI TO .ellipsis := zA
  refine wpAny_bind ?_
  simp only [List.zipIdx_cons, List.zipIdx_nil, List.forIn_cons, List.forIn_nil]
  refine wpAny_bind (wpAny_bind (wpAny_onRaise (?_ : wpAny _ _ (Builtin.SmallTypes.nextOf (.ref i1) >>= _) _ _ _)))
  refine wpAny_bind (wpAny_nextOf_list_end hh (h1.extBut sA.extBut D.i1z) (t1.extBut sA.extBut D.l1z) hx fun hB e kB he => ?_)
  obtain ⟨oe, he, hc⟩ := he
  have zB : IsZip hB z TI TO .ellipsis := kB _ _ D.i1z.symm zA
  have ne : e ≠ z := fun q => by subst q; rw [zB] at he; cases he; simp at hc
  exact wpAny_setField_rec zB (by simp) fun hC _ sC => hE hC e (fun c o n1 _ n3 _ q => sC.extBut _ _ n1 (kB _ _ n3 (sA.extBut _ _ n1 q))) ⟨oe, sC.extBut _ _ ne he, hc⟩
theorem zm_pyItem (D : ZipApart z TI TO i1 i2 l1 l2) (hz : IsZip s.heap z TI TO .none) (hTI : IsPair s.heap TI (.ref i1) (.ref i2)) (hTO : IsPair s.heap TO a b) (h1 : s.heap.IsListIter i1 l1 k) (h2 : s.heap.IsTupleIter i2 l2 k) (t1 : s.heap.IsList l1 xs) (t2 : s.heap.IsTuple l2 ys)
    (hx : xs[k]? = some x) (hy : ys[k]? = some y) {Q : Option Value → Shared → Prop}
    (fin : ∀ h', IsZip h' z TI TO (rawInt s.heap.objs.size) → IsPair h' TO x y → h'.IsListIter i1 l1 (k + 1) → h'.IsTupleIter i2 l2 (k + 1) → IsPair h' s.heap.objs.size x y →
      (∀ c o, c ≠ z → c ≠ TO → c ≠ i1 → c ≠ i2 → s.heap.get? c = some o → h'.get? c = some o) → Q (some (.ref s.heap.objs.size)) { s with heap := h' }) : wpAny (model prog w) A (pyNext (.ref z)) Q E s := by
  have hT : s.TypeIs (.ref z) "zip" := ⟨_, hz, rfl⟩
  unfold pyNext
  exact wpAny_bind (wpAny_attempt (wpAny_callSpecial?_slot (name := Str.ofString "__next__") hT F.slot_zip_next (wpAny_call_entry F.slot_zip_next hT F.entry_zip_next
    (zm_item D hz hTI hTO h1 h2 t1 t2 hx hy fun h' a1 a2 a3 a4 a5 a6 => wpAny_pure (fin h' a1 a2 a3 a4 a5 a6)) (F.args_zip_next_1 _))))
theorem zm_pyEnd (hh : A.handled = none) (D : ZipApart z TI TO i1 i2 l1 l2) (hz : IsZip s.heap z TI TO .none) (hTI : IsPair s.heap TI (.ref i1) (.ref i2)) (hTO : IsPair s.heap TO a b) (h1 : s.heap.IsListIter i1 l1 k) (h2 : s.heap.IsTupleIter i2 l2 k) (t1 : s.heap.IsList l1 xs) (t2 : s.heap.IsTuple l2 ys)
    (hx : xs[k]? = none) {Q : Option Value → Shared → Prop}
    (fin : ∀ h', (∀ c o, c ≠ z → c ≠ TO → c ≠ i1 → c ≠ i2 → s.heap.get? c = some o → h'.get? c = some o) → Q none { s with heap := h' }) : wpAny (model prog w) A (pyNext (.ref z)) Q E s := by
  have hT : s.TypeIs (.ref z) "zip" := ⟨_, hz, rfl⟩
  unfold pyNext
  refine wpAny_bind (wpAny_attempt (wpAny_callSpecial?_slot (name := Str.ofString "__next__") hT F.slot_zip_next (wpAny_call_entry F.slot_zip_next hT F.entry_zip_next
    (zm_end (A := A.in1) (show A.in1.handled = none from hh) D hz hTI h1 t1 hTO hx fun h' e kp he => ?_) (F.args_zip_next_1 _))))
  obtain ⟨o, ho, hc⟩ := he
  exact wpAny_bind (wpAny_isInstance (T := "StopIteration") (b := true) ⟨o, ho, hc⟩ isSubtype_stop (wpAny_pure (fin h' kp)))
end
/-- how its turns go -/
def ItzM (K : PySem.W.Frag) (a b : Addr) : It :=
  ⟨fun i H => ∃ (xs ys : List V) (x y : V), SqL K H a xs ∧ SqT K H b ys ∧ xs[i]? = some x ∧ ys[i]? = some y,
    fun i H v H' => ∃ T x y, v = .ref T ∧ H T = none ∧ H' = upd H T (.tup [x, y]) ∧ (∀ xs, SqL K H a xs → xs[i]? = some x) ∧ ∀ ys, SqT K H b ys → ys[i]? = some y,
    fun i H => ∃ xs ys : List V, SqL K H a xs ∧ SqT K H b ys ∧ xs.length = ys.length ∧ xs.length ≤ i⟩
theorem turn_zm {P : Program} {w : World} {K : PySem.W.Frag} {elts : List Expr} {kk : Nat} {tpos : Pos} {a b z TI TO i1 i2 : Addr} (D : ZipApart z TI TO i1 i2 a b) :
    Turn P w K (.Tuple elts kk tpos) (ItzM K a b) [z, TI, TO, i1, i2] z (fun i h => IsZip h z TI TO .none ∧ IsPair h TI (.ref i1) (.ref i2) ∧ (∃ x y, IsPair h TO x y) ∧ h.IsListIter i1 a i ∧ h.IsTupleIter i2 b i) where
  mem := List.mem_cons_self
  obj := fun i h st c hc => by
    obtain ⟨r1, r2, ⟨_, _, r3⟩, ⟨o4, r4, _, d4⟩, ⟨o5, r5, _, d5⟩⟩ := st
    simp only [List.mem_cons, List.not_mem_nil, or_false] at hc
    rcases hc with rfl | rfl | rfl | rfl | rfl
    · exact ⟨_, r1, fun v q => nomatch q⟩
    · exact ⟨_, r2, fun v q => nomatch q⟩
    · exact ⟨_, r3, fun v q => nomatch q⟩
    · exact ⟨o4, r4, fun v q => by rw [d4] at q; cases q⟩
    · exact ⟨o5, r5, fun v q => by rw [d5] at q; cases q⟩
  keep := fun i h h' st k => by
    obtain ⟨r1, r2, ⟨x, y, r3⟩, r4, r5⟩ := st
    exact ⟨k _ (by simp) _ r1, k _ (by simp) _ r2, ⟨x, y, k _ (by simp) _ r3⟩, r4.at fun o q => k _ (by simp) o q, r5.at fun o q => k _ (by simp) o q⟩
  item := by
    rintro X rfl rfl rfl hc i pins s σ H E I hf ⟨r1, r2, ⟨x0, y0, r3⟩, r4, r5⟩ ⟨xs, ys, x, y, sx, sy, ex, ey⟩
    obtain ⟨us, rv, p0, _⟩ := I.list sx
    have p := p0.isList
    obtain ⟨ws, rv2, p2, _⟩ := I.tuple sy
    obtain ⟨u, hu, ru⟩ := rv.get ex
    obtain ⟨u2, hu2, ru2⟩ := rv2.get ey
    have low : z < s.heap.objs.size := Heap.lt_size r1
    refine zm_pyItem D r1 r2 r3 r4 r5 p p2 (x := u) (y := u2) (by simpa using hu) (by simpa using hu2) fun h' z' TO' j1 j2 hT hk => ?_
    refine ⟨_, rfl, wpAny_letOwnedTupleGo_zip (s := { s with heap := h' }) z' fun h2 z2 sb => ?_⟩
    have hT2 : h2.get? s.heap.objs.size = some { cls := .type "tuple", data := .seq #[u, u2] } := (sb.2 _ (Nat.ne_of_gt low)).trans hT
    have out : ∀ c, c ∉ [z, TI, TO, i1, i2] → ∀ o, s.heap.get? c = some o → h2.get? c = some o := fun c hc o q => by
      simp only [List.mem_cons, List.not_mem_nil, or_false, not_or] at hc
      exact (sb.2 c hc.1).trans (hk c o hc.1 hc.2.2.1 hc.2.2.2.1 hc.2.2.2.2 q)
    have J : Inv X pins σ (upd H s.heap.objs.size (.tup [x, y])) { s with heap := h2 } :=
      I.turnedNew (t' := s.toks) (ch := [z, TI, TO, i1, i2]) (fun c o hc q => out c hc o q) hf (Nat.le_refl _) ⟨by show 2 ≤ sizeLine; decide, [u, u2], .cons ru (.cons ru2 .nil), ⟨_, hT2, rfl, _, rfl⟩⟩
    refine ⟨.ref s.heap.objs.size, _, J, rfl, ⟨_, x, y, rfl, I.hok.fresh (Nat.le_refl _), rfl, fun l hl => by rw [I.list_inj hl sx]; exact ex, fun l hl => by rw [I.tuple_inj hl sy]; exact ey⟩, ⟨z2, (sb.2 _ D.TIz).trans (hk _ _ D.TIz D.TITO D.TIi1 D.TIi2 r2), ⟨u, u2, (sb.2 _ D.TOz).trans TO'⟩, j1.at fun o q => (sb.2 _ D.i1z).trans q, j2.at fun o q => (sb.2 _ D.i2z).trans q⟩, fun c hcm => ?_⟩
    have old : c < s.heap.objs.size := by
      have hc := hcm
      simp only [List.mem_cons, List.not_mem_nil, or_false] at hc
      rcases hc with rfl | rfl | rfl | rfl | rfl
      · exact low
      · exact Heap.lt_size r2
      · exact Heap.lt_size r3
      · obtain ⟨_, q, _⟩ := r4; exact Heap.lt_size q
      · obtain ⟨_, q, _⟩ := r5; exact Heap.lt_size q
    rw [upd_ne (Nat.ne_of_lt old)]
    exact (hf c hcm).1
  done := by
    rintro X rfl rfl rfl hc i pins s σ H E I hf ⟨r1, r2, ⟨x0, y0, r3⟩, r4, r5⟩ ⟨xs, ys, sx, sy, el, ei⟩
    obtain ⟨us, rv, p0, _⟩ := I.list sx
    have p := p0.isList
    obtain ⟨ws, rv2, p2, _⟩ := I.tuple sy
    have n1 := rv.length
    have n2 := rv2.length
    exact zm_pyEnd (I.ok.hd hc) D r1 r2 r3 r4 r5 p p2 (by simp; omega) fun h' hk => ⟨rfl, I.turnedL (t' := s.toks) (ch := [z, TI, TO, i1, i2]) (fun c o hb q => by
      simp only [List.mem_cons, List.not_mem_nil, or_false, not_or] at hb
      exact hk c o hb.1 hb.2.2.1 hb.2.2.2.1 hb.2.2.2.2 q) hf⟩
  self := fun A i s Q E st h => wpAny_pyIter_zip st.1 h
def iZipB (K : PySem.W.Frag) (ta : TA) : TI := fun σ H R => ta σ H fun vs H1 => ∃ a b xs ys, vs = [.ref a, .ref b] ∧
  ((SqL K H1 a xs ∧ SqL K H1 b ys ∧ R (Itz K a b) H1) ∨ (SqT K H1 a xs ∧ SqT K H1 b ys ∧ R (RZ.ItzT K a b) H1) ∨ (SqL K H1 a xs ∧ SqT K H1 b ys ∧ R (ItzM K a b) H1))
theorem pi_zipB {X : Cx} {e e2 : Expr} {ta : TA} {p pos tpos : Pos} {elts : List Expr} {kk : Nat} (hg : Gl X "zip") (hm : X.mg "zip" = none) (ha : PA X [e, e2] ta)
    (hs : starEach [e, e2] X.env = (false, eval e X.env) :: starEach [e2] X.env := by rfl) (hpl : (backTo pos (starEach [e2] X.env)).any (·.1) = false := by rfl) :
    PI X (.Tuple elts kk tpos) (.Call (.Name "zip" p) [e, e2] [] pos) (iZipB X.K ta) := by
  refine ⟨fun pins s σ H R I h => ?_⟩
  refine Call_ (ld_blt I hg hm PyProof.Rows.boot_zip (PyProof.Rows.callWith_type1 (thn (ha.run pos pins s σ H _ I h) fun us s1 ⟨vs, H1, I1, r1, q1⟩ => ?_) hs hpl))
  obtain ⟨a, b, xs, ys, ex, q1⟩ := q1
  subst ex
  cases r1 with
  | cons r rr =>
    cases rr with
    | cons r' rr =>
      cases rr
      cases r
      cases r'
      have fresh5 : ∀ c, c ∈ [s1.heap.objs.size + 4, s1.heap.objs.size + 2, s1.heap.objs.size + 3, s1.heap.objs.size, s1.heap.objs.size + 1] → FpOk X pins H1 c := fun c hc => by
        have le : s1.heap.objs.size ≤ c := by
          simp only [List.mem_cons, List.not_mem_nil, or_false] at hc
          rcases hc with rfl | rfl | rfl | rfl | rfl <;> omega
        exact I1.fpOk le (I1.hok.fresh le)
      rcases q1 with ⟨sx, sy, q⟩ | ⟨sx, sy, q⟩ | ⟨sx, sy, q⟩
      · obtain ⟨us, rv, p1, _⟩ := I1.list sx
        obtain ⟨ws, rv2, p2, _⟩ := I1.list sy
        refine call_zip_2 p1.isList p2.isList fun h' hz hTI hTO h1 h2 _ hk => wpAny_pyIter_zip hz ?_
        exact ⟨_, [s1.heap.objs.size + 4, s1.heap.objs.size + 2, s1.heap.objs.size + 3, s1.heap.objs.size, s1.heap.objs.size + 1], _, _, H1, rfl, I1.kept (t' := s1.toks) hk, turn_zip (PySem.W.ktu_apart s1.heap.objs.size a b p1.lt p2.lt), ⟨hz, hTI, ⟨_, _, hTO⟩, h1, h2⟩, fresh5, q⟩
      · obtain ⟨us, rv, t1, _⟩ := I1.tuple sx
        obtain ⟨ws, rv2, t2, _⟩ := I1.tuple sy
        obtain ⟨o1, g1, _⟩ := id t1
        obtain ⟨o2, g2, _⟩ := id t2
        refine RZ.call_zipT (show s1.heap.IsTuple a us.toArray from t1) (show s1.heap.IsTuple b ws.toArray from t2) fun h' hz hTI hTO h1 h2 _ hk => wpAny_pyIter_zip hz ?_
        exact ⟨_, [s1.heap.objs.size + 4, s1.heap.objs.size + 2, s1.heap.objs.size + 3, s1.heap.objs.size, s1.heap.objs.size + 1], _, _, H1, rfl, I1.kept (t' := s1.toks) hk, RZ.turn_zipT (PySem.W.ktu_apart s1.heap.objs.size a b (Heap.lt_size g1) (Heap.lt_size g2)), ⟨hz, hTI, ⟨_, _, hTO⟩, h1, h2⟩, fresh5, q⟩
      · obtain ⟨us, rv, p1, _⟩ := I1.list sx
        obtain ⟨ws, rv2, t2, _⟩ := I1.tuple sy
        obtain ⟨o2, g2, _⟩ := id t2
        refine call_zm p1.isList (show s1.heap.IsTuple b ws.toArray from t2) fun h' hz hTI hTO h1 h2 hk => wpAny_pyIter_zip hz ?_
        exact ⟨_, [s1.heap.objs.size + 4, s1.heap.objs.size + 2, s1.heap.objs.size + 3, s1.heap.objs.size, s1.heap.objs.size + 1], _, _, H1, rfl, I1.kept (t' := s1.toks) hk, turn_zm (PySem.W.ktu_apart s1.heap.objs.size a b p1.lt (Heap.lt_size g2)), ⟨hz, hTI, ⟨_, _, hTO⟩, h1, h2⟩, fresh5, q⟩
end Dl

set_option Elab.async false
set_option linter.all false
set_option autoImplicit false
set_option maxRecDepth 100000
set_option maxHeartbeats 1000000
namespace Dl
open PySem L2

def asT : D → Option Bool
  | .none => some false
  | .bool b => some b
  | .int i => some (i != 0)
  | .str y => if y.length ≤ sizeLine then some ((y.length : Int) != 0) else none
  | .list xs => some (!xs.isEmpty)
  | .tuple xs => some (!xs.isEmpty)
  | .dict _ => none
theorem isE_len {α β : Type} {xs : List α} {ys : List β} (h : xs.length = ys.length) : (!xs.isEmpty) = !ys.isEmpty := by
  cases xs <;> cases ys <;> simp_all
theorem tru_d {K : PySem.W.Frag} {G H : Hp} {v : V} {d : D} {b : Bool} (gh : Same G H) (r : Rp G v d) (h : asT d = some b) : TruV K v H b := by
  cases r with
  | non => cases h; rfl
  | bl c => cases h; rfl
  | int i => cases h; rfl
  | str z =>
    simp only [asT, Option.ite_none_right_eq_some, Option.some.injEq] at h
    exact ⟨h.1, h.2.symm⟩
  | lst hp r =>
    cases h
    exact .inl ⟨_, SqL.of (gh _ _ hp), isE_len r.length.symm⟩
  | tup hp r =>
    cases h
    exact .inr (.inl ⟨_, (hp.sqm gh), isE_len r.length.symm⟩)
  | dic hp => cases h
  | dik hp => cases h
section
variable {X : Cx} {R : Res} {ρ : List Cell} {e a b c : Expr} {pos : Pos}
theorem jt_tru {T : M D} (h : JM X R ρ e T) (he : ∀ whole, isTrue e X.env whole = (do let v ← whole; standAt e.pos; holding [v] (truthy v)) := by intro _; rfl) : JT X R ρ e (fun q => T fun d m => lift (asT d) q m) := by
  refine PT.imp (pt_truth h he) fun σ H Q ⟨G, m, q, S, t, k⟩ => ⟨G, m, _, S, t, fun v d G' H' m' S' g r hq => ?_⟩
  obtain ⟨b, hb, hq⟩ := hq
  exact ⟨b, tru_d S'.gh r hb, k b G' H' m' S' g hq⟩
theorem jte_tru {o : Option D} (h : JE X R ρ e o) (he : ∀ whole, isTrue e X.env whole = (do let v ← whole; standAt e.pos; holding [v] (truthy v)) := by intro _; rfl) : JTE X R ρ e (o.bind asT) := (jt_tru h he).imp fun _ _ => lift1

theorem jl_if {Tc : M Bool} {Ta Tb : M (List D)} (hc : JT X R ρ c Tc) (ha : JL X R ρ a Ta) (hb : JL X R ρ b Tb) : JL X R ρ (.IfExp c a b pos) (fun q m => Tc (fun t m1 => if t = true then Ta q m1 else Tb q m1) m) := by
  refine PE.imp (pe_ifExp hc ha hb) fun σ H Q ⟨G, m, q, S, t, k⟩ => ⟨G, m, _, S, t, fun c G1 H1 m1 S1 g1 q1 => ?_⟩
  cases c with
  | true =>
    show tL R ρ Ta σ H1 Q
    exact ⟨G1, m1, q, S1, q1, fun p vs ds G2 H2 m2 S2 g2 hp gp hp2 r2 q2 => k p vs ds G2 H2 m2 S2 (g1.trans S1.vh g2) (free_of g1 S1.vh hp) gp hp2 r2 q2⟩
  | false =>
    show tL R ρ Tb σ H1 Q
    exact ⟨G1, m1, q, S1, q1, fun p vs ds G2 H2 m2 S2 g2 hp gp hp2 r2 q2 => k p vs ds G2 H2 m2 S2 (g1.trans S1.vh g2) (free_of g1 S1.vh hp) gp hp2 r2 q2⟩
theorem jle_if {oc : Option Bool} {oa ob : Option (List D)} (hc : JTE X R ρ c oc) (ha : JLE X R ρ a oa) (hb : JLE X R ρ b ob) : JLE X R ρ (.IfExp c a b pos) (ifO oc oa ob) := (jl_if hc ha hb).imp fun q m h => by
  obtain ⟨t, h1, h2⟩ := lift1 h
  refine ⟨t, h1, ?_⟩
  cases t <;> exact h2

def zipD : List D → List D → List D
  | x :: xs, y :: ys => .tuple [x, y] :: zipD xs ys
  | _, _ => []
theorem zipD_len : ∀ (xs ys : List D), (zipD xs ys).length = min xs.length ys.length
  | [], _ => by simp [zipD]
  | _ :: _, [] => by simp [zipD]
  | x :: xs, y :: ys => by simp [zipD, zipD_len xs ys]
theorem zipD_at : ∀ {xs ys : List D} {i : Nat} {x y : D}, xs[i]? = some x → ys[i]? = some y → (zipD xs ys)[i]? = some (.tuple [x, y])
  | [], _, _, _, _, h, _ => by simp at h
  | _ :: _, [], _, _, _, _, h => by simp at h
  | x :: xs, y :: ys, 0, _, _, h, k => by cases h; cases k; trivial
  | x :: xs, y :: ys, i + 1, _, _, h, k => zipD_at (xs := xs) (ys := ys) (i := i) (by simpa using h) (by simpa using k)
def dZip : D → D → Option (List D)
  | .list xs, .list ys => some (zipD xs ys)
  | .tuple xs, .tuple ys => some (zipD xs ys)
  | .list xs, .tuple ys => if xs.length = ys.length then some (zipD xs ys) else none
  | _, _ => none
theorem walk_zl {elts : List Expr} {kk : Nat} {tpos : Pos} {K : PySem.W.Frag} {G : Hp} {p q : Addr} {vs ws : List V} {ds es : List D} (hp : G p = some (.lst vs)) (hq : G q = some (.lst ws)) (r : RpL G vs ds) (r2 : RpL G ws es) : IsWalk (.Tuple elts kk tpos) G (Itz K p q) (zipD ds es) where
  go := fun i H s hi => by
    rw [zipD_len] at hi
    have h1 : i < vs.length := by rw [r.length]; omega
    have h2 : i < ws.length := by rw [r2.length]; omega
    exact ⟨vs, ws, _, _, SqL.of (s _ _ hp), SqL.of (s _ _ hq), List.getElem?_eq_getElem h1, List.getElem?_eq_getElem h2⟩
  stop := fun H s => ⟨vs, ws, SqL.of (s _ _ hp), SqL.of (s _ _ hq), by rw [zipD_len, r.length, r2.length]; omega⟩
  yld := fun i H x H' s hi y => by
    obtain ⟨T, x, y, rfl, hT, rfl, f1, f2⟩ := y
    obtain ⟨d, hd, rd⟩ := r.getV (f1 _ (SqL.of (s _ _ hp)))
    obtain ⟨e, he, re⟩ := r2.getV (f2 _ (SqL.of (s _ _ hq)))
    exact ⟨_, zipD_at hd he, .inr ⟨⟨_, _, _, rfl⟩, T, _, _, rfl, hT, rfl, rfl, .cons rd (.cons re .nil)⟩⟩
theorem walk_zt {elts : List Expr} {kk : Nat} {tpos : Pos} {K : PySem.W.Frag} {G : Hp} {p q : Addr} {vs ws : List V} {ds es : List D} (hp : Tu G p vs) (hq : Tu G q ws) (r : RpL G vs ds) (r2 : RpL G ws es) : IsWalk (.Tuple elts kk tpos) G (RZ.ItzT K p q) (zipD ds es) where
  go := fun i H s hi => by
    rw [zipD_len] at hi
    have h1 : i < vs.length := by rw [r.length]; omega
    have h2 : i < ws.length := by rw [r2.length]; omega
    exact ⟨vs, ws, _, _, (hp.sqm s), (hq.sqm s), List.getElem?_eq_getElem h1, List.getElem?_eq_getElem h2⟩
  stop := fun H s => ⟨vs, ws, (hp.sqm s), (hq.sqm s), by rw [zipD_len, r.length, r2.length]; omega⟩
  yld := fun i H x H' s hi y => by
    obtain ⟨T, x, y, rfl, hT, rfl, f1, f2⟩ := y
    obtain ⟨d, hd, rd⟩ := r.getV (f1 _ ((hp.sqm s)))
    obtain ⟨e, he, re⟩ := r2.getV (f2 _ ((hq.sqm s)))
    exact ⟨_, zipD_at hd he, .inr ⟨⟨_, _, _, rfl⟩, T, _, _, rfl, hT, rfl, rfl, .cons rd (.cons re .nil)⟩⟩
theorem walk_zm {elts : List Expr} {kk : Nat} {tpos : Pos} {K : PySem.W.Frag} {G : Hp} {p q : Addr} {vs ws : List V} {ds es : List D} (hp : G p = some (.lst vs)) (hq : Tu G q ws) (r : RpL G vs ds) (r2 : RpL G ws es) (hl : ds.length = es.length) : IsWalk (.Tuple elts kk tpos) G (ItzM K p q) (zipD ds es) where
  go := fun i H s hi => by
    rw [zipD_len] at hi
    have h1 : i < vs.length := by rw [r.length]; omega
    have h2 : i < ws.length := by rw [r2.length]; omega
    exact ⟨vs, ws, _, _, SqL.of (s _ _ hp), (hq.sqm s), List.getElem?_eq_getElem h1, List.getElem?_eq_getElem h2⟩
  stop := fun H s => ⟨vs, ws, SqL.of (s _ _ hp), (hq.sqm s), by rw [r.length, r2.length, hl], by rw [zipD_len, r.length]; omega⟩
  yld := fun i H x H' s hi y => by
    obtain ⟨T, x, y, rfl, hT, rfl, f1, f2⟩ := y
    obtain ⟨d, hd, rd⟩ := r.getV (f1 _ (SqL.of (s _ _ hp)))
    obtain ⟨e, he, re⟩ := r2.getV (f2 _ ((hq.sqm s)))
    exact ⟨_, zipD_at hd he, .inr ⟨⟨_, _, _, rfl⟩, T, _, _, rfl, hT, rfl, rfl, .cons rd (.cons re .nil)⟩⟩
theorem ji_zip {Ts : M (List D)} {p tpos : Pos} {elts : List Expr} {kk : Nat} (hm : X.mg "zip" = none) (ha : JA X R ρ [a, b] 2 Ts) (hg : Gl X "zip" := by rfl)
    (hs : starEach [a, b] X.env = (false, eval a X.env) :: starEach [b] X.env := by rfl) (hpl : (backTo pos (starEach [b] X.env)).any (·.1) = false := by rfl) : JI X R ρ (.Tuple elts kk tpos) (.Call (.Name "zip" p) [a, b] [] pos) (fun q => Ts fun ds => lift (F2 dZip ds) q) := by
  refine PI.imp (pi_zipB hg hm ha hs hpl) fun σ H Rr ⟨G, m, q, S, t, k⟩ => ⟨G, m, _, S, t, fun vs ds G1 H1 m1 S1 g1 r1 l1 q1 => ?_⟩
  obtain ⟨es, hd, q1⟩ := q1
  cases r1 with
  | nil => cases hd
  | cons r1 r2 =>
    cases r2 with
    | nil => cases hd
    | cons r2 r3 =>
      cases r3 with
      | cons _ _ => cases hd
      | nil =>
        cases r1 with
        | @lst p1 vs1 xs1 h1 ra =>
          cases r2 with
          | lst h2 rb =>
            cases hd
            exact ⟨_, _, _, _, rfl, .inl ⟨SqL.of (S1.gh _ _ h1), SqL.of (S1.gh _ _ h2), k _ _ G1 H1 m1 S1 g1 (walk_zl h1 h2 ra rb) q1⟩⟩
          | @tup p2 vs2 xs2 h2 rb =>
            have hd : (if xs1.length = xs2.length then some (zipD xs1 xs2) else none) = some es := hd
            by_cases hl : xs1.length = xs2.length
            · rw [if_pos hl] at hd
              cases hd
              exact ⟨_, _, _, _, rfl, .inr (.inr ⟨SqL.of (S1.gh _ _ h1), (h2.sqm S1.gh), k _ _ G1 H1 m1 S1 g1 (walk_zm h1 h2 ra rb hl) q1⟩)⟩
            · rw [if_neg hl] at hd; cases hd
          | _ => cases hd
        | tup h1 ra =>
          cases r2 with
          | tup h2 rb =>
            cases hd
            exact ⟨_, _, _, _, rfl, .inr (.inl ⟨(h1.sqm S1.gh), (h2.sqm S1.gh), k _ _ G1 H1 m1 S1 g1 (walk_zt h1 h2 ra rb) q1⟩)⟩
          | _ => cases hd
        | _ => cases r2 <;> cases hd
theorem jie_zip {oa ob : Option D} {p tpos : Pos} {elts : List Expr} {kk : Nat} (hm : X.mg "zip" = none) (ha : JE X R ρ a oa) (hb : JE X R ρ b ob) (hg : Gl X "zip" := by rfl)
    (hs : starEach [a, b] X.env = (false, eval a X.env) :: starEach [b] X.env := by rfl) (hs2 : starEach [b] X.env = (false, eval b X.env) :: starEach [] X.env := by rfl) (hpl : (backTo pos (starEach [b] X.env)).any (·.1) = false := by rfl) : JIE X R ρ (.Tuple elts kk tpos) (.Call (.Name "zip" p) [a, b] [] pos) (C2 dZip oa ob) :=
  (ji_zip hm (jae_cons ha (jae_cons hb jae_nil hs2) hs) hg hs hpl).imp fun q m h => liftF (by rw [c2_eq]; exact h)
theorem JIE.new {tg : Expr} {o : Option (List D)} (h : JLE X R ρ e o) : JIE X R ρ tg e o := ji_new h
end

section
variable {α : Type} {X : Cx} {R : Res} {rk : RK α} {ρ : List Cell} {st : Stmt} {rest A B' : List Stmt} {κ : Kt} {q : α → Nat → Prop} {e c : Expr} {pos : Pos}
theorem Sit.shareO {σ : L2.St} {G H : Hp} {m : Nat} (S : Sit R σ ρ G H m) {i : Nat} {ds : D} (hρ : ρ[i]? = some (.ow ds)) : ∃ G', Sit R σ (ρ.set i (.dat ds)) G' H m ∧ Same G G' ∧ ∀ {Gb : Hp}, Grow R.vol Gb R.ent G H → Grow R.vol Gb R.ent G' H := by
  obtain ⟨l, u, e, gl, nv, en, hl, r⟩ := S.owT hρ
  obtain ⟨g1, g2⟩ := grow_share S.gh gl hl
  have hi : i < ρ.length := (List.getElem?_eq_some_iff.mp hρ).1
  refine ⟨upd G l u, ⟨⟨g2, fun a v => ?_, S.vh, R.sm g1 S.js, S.jd, S.en⟩, by simp [S.len], fun j c ec => ?_, fun j k es fs l' e1 e2 e3 e4 => ?_⟩, g1, fun g => ⟨g.gg.trans g1, g.hh, fun a ga ha => ?_⟩⟩
  · rw [upd_ne fun z : a = l => nv (z ▸ v)]; exact S.vg a v
  · by_cases hj : i = j
    · subst hj
      rw [List.getElem?_set_self hi] at ec
      cases ec
      exact ⟨_, e, (r.mono g1).rp upd_same⟩
    · rw [List.getElem?_set_ne hj] at ec
      have q := S.cell j c ec
      cases c with
      | no => trivial
      | raw v => exact q
      | dat d =>
        obtain ⟨v, e, rv⟩ := q
        exact ⟨v, e, rv.mono g1⟩
      | ow fs =>
        obtain ⟨l2, vs2, q1, q2, q3, q6, q4, q5⟩ := q
        refine ⟨l2, vs2, q1, ?_, q3, q6, q4, q5.mono g1⟩
        rw [upd_ne (fun z => hj (S.apart i j ds fs l hρ ec e (by rw [q1, z])))]
        exact q2
  · obtain ⟨n1, e1⟩ := own_set (c := .dat ds) (fun _ z => nomatch z) e1
    obtain ⟨n2, e2⟩ := own_set (c := .dat ds) (fun _ z => nomatch z) e2
    exact S.apart j k es fs l' e1 e2 e3 e4
  · by_cases z : a = l
    · subst z; exact absurd en ha
    · rw [upd_ne z]; exact g.new a ga ha
theorem jk_give {sts : List Stmt} {a : Nat → Prop} (i : Nat) {ds : List D} (h : JK X R rk (ρ.set i (.dat (.list ds))) sts κ q a) (hρ : ρ[i]? = some (.own ds) := by rfl) : JK X R rk ρ sts κ q a :=
  PSs.imp h fun Dn σ H ⟨Gb, G, m, S, g, t, ls⟩ => by
    obtain ⟨G', S', s', g'⟩ := S.shareO hρ
    exact ⟨Gb, G', m, S', g' g, t, ls.sm s'⟩
theorem JK.weak {ρ' : List Cell} {sts : List Stmt} {a : Nat → Prop} (h : JK X R rk ρ' sts κ q a) (w : Wk ρ ρ') : JK X R rk ρ sts κ q a :=
  PSs.imp h fun Dn σ H ⟨Gb, G, m, S, g, t, ls⟩ => ⟨Gb, G, m, S.weak w, g, t, ls⟩
def KtJ {S : Type} (env : S → List Cell) (kk : S → Nat → Prop) (κ : Kt) : Kt := ⟨fun ρ' b => ∃ s', Wk ρ' (env s') ∧ ∀ m, b m → kk s' m, κ.bk, κ.ct⟩
def joinK {S : Type} (k : S → Nat → Prop) (b : (S → Nat → Prop) → Nat → Prop) : Nat → Prop := b k
theorem jk_ifJ {S : Type} {env : S → List Cell} {k : S → Nat → Prop} {Tc : M Bool} {aA aB : (S → Nat → Prop) → Nat → Prop} (hc : JT X R ρ c Tc) (hA : ∀ kk, JK X R rk ρ A (KtJ env kk κ) q (aA kk)) (hB : ∀ kk, JK X R rk ρ B' (KtJ env kk κ) q (aB kk)) (hr : ∀ s, JK X R rk (env s) rest κ q (k s)) :
    JK X R rk ρ (.If c A B' pos :: rest) κ q (joinK k fun kk => Tc fun t m => if t = true then aA kk m else aB kk m) := by
  have key : ∀ (ρ' : List Cell) (b : Nat → Prop), (∃ s', Wk ρ' (env s') ∧ ∀ m, b m → k s' m) → JK X R rk ρ' rest κ q b := fun ρ' b ⟨s', w, hb⟩ => ((hr s').weak w).imp hb
  exact jk_if hc ((hA k).kmono key (fun _ _ h => h) fun _ _ h => h) ((hB k).kmono key (fun _ _ h => h) fun _ _ h => h)
end
section
variable {α : Type} {X : Cx} {R : Res} {rk : RK α} {ρ : List Cell} {st : Stmt} {rest A B' : List Stmt} {κ : KtE α} {e c : Expr} {pos : Pos}
theorem jke_give {sts : List Stmt} {o : Option α} (i : Nat) {ds : List D} (h : JKE X R rk (ρ.set i (.dat (.list ds))) sts κ o) (hρ : ρ[i]? = some (.own ds) := by rfl) : JKE X R rk ρ sts κ o := fun a => jk_give i (h a) hρ
theorem JKE.weak {ρ' : List Cell} {sts : List Stmt} {o : Option α} (h : JKE X R rk ρ' sts κ o) (w : Wk ρ ρ') : JKE X R rk ρ sts κ o := fun a => (h a).weak w
theorem JKE.kmono {κ' : KtE α} {sts : List Stmt} {o : Option α} (h : JKE X R rk ρ sts κ o) (k1 : ∀ ρ b, κ.nx ρ b → κ'.nx ρ b) (k2 : ∀ ρ b, κ.bk ρ b → κ'.bk ρ b) (k3 : ∀ ρ b, κ.ct ρ b → κ'.ct ρ b) : JKE X R rk ρ sts κ' o := fun a =>
  (h a).kmono (fun ρ b ⟨o, h, z⟩ => ⟨o, k1 ρ o h, z⟩) (fun ρ b ⟨o, h, z⟩ => ⟨o, k2 ρ o h, z⟩) fun ρ b ⟨o, h, z⟩ => ⟨o, k3 ρ o h, z⟩
def KtJE {S : Type} (env : S → List Cell) (kk : S → Option α) (κ : KtE α) : KtE α := ⟨fun ρ' o => ∃ s', Wk ρ' (env s') ∧ o = kk s', κ.bk, κ.ct⟩
def joinO {S α : Type} (k : S → Option α) (b : (S → Option α) → Option α) : Option α := b k
theorem jke_ifJ {S : Type} {env : S → List Cell} {k : S → Option α} {oc : Option Bool} {oA oB : (S → Option α) → Option α} (hc : JTE X R ρ c oc) (hA : ∀ kk, JKE X R rk ρ A (KtJE env kk κ) (oA kk)) (hB : ∀ kk, JKE X R rk ρ B' (KtJE env kk κ) (oB kk)) (hr : ∀ s, JKE X R rk (env s) rest κ (k s)) :
    JKE X R rk ρ (.If c A B' pos :: rest) κ (joinO k fun kk => ifO oc (oA kk) (oB kk)) := by
  have key : ∀ (ρ' : List Cell) (o : Option α), (∃ s', Wk ρ' (env s') ∧ o = k s') → JKE X R rk ρ' rest κ o := fun ρ' o ⟨s', w, e⟩ => by subst e; exact (hr s').weak w
  exact jke_if hc ((hA k).kmono key (fun _ _ h => h) fun _ _ h => h) ((hB k).kmono key (fun _ _ h => h) fun _ _ h => h)
end
section
variable {P : Program} {w : World} {K : PySem.W.Frag} {mg : Str → Option Value} {base : Heap} {x : Str} {sp : Sp}
theorem Kn.mono {j k : Nat} (h : Kn P w K mg base x j sp) (l : j ≤ k := by omega) : Kn P w K mg base x k sp := by
  obtain ⟨f, fd, ps, F, r⟩ := h
  exact ⟨f, fd, ps, F.mono l, r⟩
end
/-- the equation first -/
theorem JM.by {X : Cx} {R : Res} {ρ : List Cell} {e : Expr} {o o' : Option D} (k : o = o') (h : JE X R ρ e o) : JE X R ρ e o' := h.eq k
theorem JL.by {X : Cx} {R : Res} {ρ : List Cell} {e : Expr} {o o' : Option (List D)} (k : o = o') (h : JLE X R ρ e o) : JLE X R ρ e o' := h.eq k
end Dl

set_option Elab.async false
set_option linter.all false
set_option autoImplicit false
set_option maxRecDepth 100000
set_option maxHeartbeats 1000000
namespace Dl
open PySem L2
def dLe : D → D → Option D := dCmp fun i j => decide (i ≤ j)
def dGt : D → D → Option D := dCmp fun i j => decide (j < i)
def dGe : D → D → Option D := dCmp fun i j => decide (j ≤ i)
theorem od_le : OpD (rI0 fun i j => V.bl (decide (i ≤ j))) dLe := od_cmp
theorem od_gt : OpD (rI0 fun i j => V.bl (decide (j < i))) dGt := od_cmp
theorem od_ge : OpD (rI0 fun i j => V.bl (decide (j ≤ i))) dGe := od_cmp
section
variable {X : Cx} {R : Res} {ρ : List Cell} {tg iter elt : Expr} {ifs : List Expr} {scope : Scope} {own : List (Str × Nat)} {pos : Pos} {k : Nat}
theorem okTE_one {c : Expr} {o : Option Bool} (h : ∀ (s : Shared) (H : Hp) (C : Addr) (cl : List (Str × Addr)) (fp : List Addr), JTE (X.blk s H scope (compEnvC scope cl C X.env) fp) R ρ c o) : OkTE X R scope ρ [c] o := okT_one h
end
end Dl

set_option Elab.async false
set_option linter.all false
set_option autoImplicit false
set_option maxRecDepth 100000
set_option maxHeartbeats 1000000
namespace Dl
open PySem L2 PySem.Spec PyProof.Rows

def cutD (xs : List D) (lo hi : Option Int) : List D := (xs.drop (HT.sIx xs.length 0 lo)).take (HT.sIx xs.length xs.length hi - HT.sIx xs.length 0 lo)
theorem RpL.cut {G : Hp} {vs : List V} {ds : List D} (r : RpL G vs ds) (lo hi : Option Int) : RpL G (cutV vs lo hi) (cutD ds lo hi) := by
  unfold cutV cutD
  rw [r.length]
  exact (r.drop _).take _
theorem cutD_all {xs : List D} {lo hi : Option Int} (h1 : HT.sIx xs.length 0 lo = 0) (h2 : HT.sIx xs.length xs.length hi = xs.length) : cutD xs lo hi = xs := by
  unfold cutD
  rw [h1, h2]; simp
def dCut : D → Option Int → Option Int → Option D
  | .list xs, lo, hi => some (.list (cutD xs lo hi))
  | .tuple xs, lo, hi => some (.tuple (cutD xs lo hi))
  | .str z, lo, hi => if z.length ≤ sizeLine then some (.str (cutS z lo hi)) else none
  | _, _, _ => none
def slO (oe : Option D) (lo hi : Option (Option Int)) : Option D := oe.bind fun d => lo.bind fun l => hi.bind fun u => dCut d l u
def asI : D → Option (Option Int)
  | .int i => some (some i)
  | _ => none
def tO (R : Res) (ρ : List Cell) (T : M (Option Int)) : TO := fun σ H Q => ∃ G m q, Sit R σ ρ G H m ∧ T q m ∧ ∀ o G' H' m', Sit R σ ρ G' H' m' → Grow R.vol G H G' H' → q o m' → Q o H'
def JO (X : Cx) (R : Res) (ρ : List Cell) (e : Option Expr) (T : M (Option Int)) : Prop := PO X e (tO R ρ T)
theorem PO.imp {X : Cx} {e : Option Expr} {t t' : TO} (h : PO X e t) (k : ∀ σ H Q, t' σ H Q → t σ H Q) : PO X e t' := ⟨fun pins s σ H Q I q => h.run pins s σ H Q I (k σ H Q q)⟩
section
variable {X : Cx} {R : Res} {ρ : List Cell} {e a b c : Expr} {pos p2 : Pos} {lo hi : Option Expr}
theorem JO.imp {T T' : M (Option Int)} {e : Option Expr} (h : JO X R ρ e T) (k : ∀ q m, T' q m → T q m) : JO X R ρ e T' := PO.imp h fun _ _ _ ⟨G, m, q, S, t, c⟩ => ⟨G, m, q, S, k q m t, c⟩
theorem jom_none : JO X R ρ none (fun q m => q none m) := PO.imp po_none fun _ H _ ⟨G, m, _, S, t, k⟩ => k _ G H m S (Grow.refl _ _ _) t
theorem jom_some {T : M D} (h : JM X R ρ e T) : JO X R ρ (some e) (fun q => T fun d => lift (asI d) q) := PO.imp (po_some h) fun σ H Q ⟨G, m, q, S, t, k⟩ => ⟨G, m, _, S, t, fun v d G1 H1 m1 S1 g1 r1 q1 => by
  obtain ⟨o, ho, q1⟩ := q1
  cases r1 with
  | int i => cases ho; exact ⟨i, rfl, k _ G1 H1 m1 S1 g1 q1⟩
  | _ => cases ho⟩
theorem jo_none : JO X R ρ none (lift (some none)) := jom_none.imp fun _ _ => lift_some'
theorem jo_some {o : Option D} (h : JE X R ρ e o) : JO X R ρ (some e) (lift (o.bind asI)) := (jom_some h).imp fun _ _ => lift1
theorem jm_slice {T : M D} {Tl Th : M (Option Int)} (he : JM X R ρ e T) (hl : JO X R ρ lo Tl) (hh : JO X R ρ hi Th) : JM X R ρ (.Subscript e (.Slice lo hi none p2) pos) (fun q => T fun d => Tl fun l => Th fun u => lift (dCut d l u) q) := by
  refine PE.imp (pe_slice (sl_list.or (sl_tupF.or sl_str)) he hl hh) fun σ H Q ⟨G, m, q, S, t, k⟩ => ⟨G, m, _, S, t, fun v d G1 H1 m1 S1 g1 r1 q1 => ⟨G1, m1, _, S1, q1, fun l G2 H2 m2 S2 g2 q2 => ⟨G2, m2, _, S2, q2, fun u G3 H3 m3 S3 g3 q3 => ?_⟩⟩⟩
  obtain ⟨z, hz, q3⟩ := q3
  have r3 := (r1.mono g2.gg).mono g3.gg
  have g := (g1.trans S1.vh g2).trans S2.vh g3
  cases r3 with
  | @lst p vs ds hp r =>
    cases hz
    refine .inl ⟨p, vs, rfl, SqL.of (S3.gh _ _ hp), fun q' hq => ?_⟩
    obtain ⟨g4, s4⟩ := grow_new S3.gh hq (.lst (cutV vs l u))
    obtain ⟨S4, g4'⟩ := S3.growS g4 s4
    exact k _ _ _ _ m3 S4 (g.trans S3.vh g4') (.lst upd_same ((r.cut l u).mono g4.gg)) q3
  | @tup p vs ds hp r =>
    cases hz
    have rl := r.length
    refine .inr (.inl ⟨p, vs, rfl, (hp.sqm S3.gh), fun ⟨h1, h2⟩ => ?_, fun _ q' o ho hq => ?_⟩)
    · rw [rl] at h1 h2
      rw [cutD_all h1 h2] at q3
      exact k _ _ G3 H3 m3 S3 g (.tup hp r) q3
    · obtain ⟨g4, s4⟩ := grow_new S3.gh hq (.frz o (.tup (cutV vs l u)))
      obtain ⟨S4, g4'⟩ := S3.growS g4 s4
      exact k _ _ _ _ m3 S4 (g.trans S3.vh g4') (.tup (Tu.new ho) ((r.cut l u).mono g4.gg)) q3
  | str z =>
    simp only [dCut, Option.ite_none_right_eq_some, Option.some.injEq] at hz
    obtain ⟨hz, rfl⟩ := hz
    exact .inr (.inr ⟨z, rfl, hz, k _ _ G3 H3 m3 S3 g (.str _) q3⟩)
  | _ => cases hz
theorem je_slice {oe : Option D} {ol oh : Option (Option Int)} (he : JE X R ρ e oe) (hl : JO X R ρ lo (lift ol)) (hh : JO X R ρ hi (lift oh)) : JE X R ρ (.Subscript e (.Slice lo hi none p2) pos) (slO oe ol oh) := (jm_slice he hl hh).imp fun q m h => by
  obtain ⟨d, h1, h2⟩ := lift1 h
  obtain ⟨l, h3, h4⟩ := lift1 h2
  exact ⟨d, h1, l, h3, lift1 h4⟩
def dNeg : D → Option D
  | .int i => some (.int (-i))
  | _ => none
theorem jm_neg {T : M D} (h : JM X R ρ e T) : JM X R ρ (.UnaryOp .USub e pos) (fun q => T fun d => lift (dNeg d) q) := PE.imp (pe_un un_neg h) fun σ H Q ⟨G, m, q, S, t, k⟩ => ⟨G, m, _, S, t, fun v d G1 H1 m1 S1 g1 r1 q1 => by
  obtain ⟨z, hz, q1⟩ := q1
  cases r1 with
  | int i => cases hz; exact ⟨i, rfl, k _ _ G1 H1 m1 S1 g1 (.int _) q1⟩
  | _ => cases hz⟩
theorem je_neg {o : Option D} (h : JE X R ρ e o) : JE X R ρ (.UnaryOp .USub e pos) (o.bind dNeg) := (jm_neg h).imp fun _ _ => lift1
def enumD : Nat → List D → List D
  | _, [] => []
  | n, d :: ds => .tuple [.int n, d] :: enumD (n + 1) ds
theorem enumD_len : ∀ (n : Nat) (ds : List D), (enumD n ds).length = ds.length
  | _, [] => rfl
  | n, d :: ds => by simp [enumD, enumD_len (n + 1) ds]
theorem enumD_at : ∀ {n i : Nat} {ds : List D} {d : D}, ds[i]? = some d → (enumD n ds)[i]? = some (.tuple [.int (n + i : Nat), d])
  | _, _, [], _, h => by simp at h
  | n, 0, d :: ds, _, h => by simp at h; subst h; rfl
  | n, i + 1, d :: ds, e, h => by
    have := enumD_at (n := n + 1) (i := i) (ds := ds) (d := e) (by simpa using h)
    show (enumD (n + 1) ds)[i]? = _
    rw [this]
    congr 4
    omega
def dEnum : D → Option (List D)
  | .list xs => some (enumD 0 xs)
  | _ => none
theorem walk_e {elts : List Expr} {kk : Nat} {tpos : Pos} {K : PySem.W.Frag} {G : Hp} {p : Addr} {vs : List V} {ds : List D} (hp : G p = some (.lst vs)) (r : RpL G vs ds) : IsWalk (.Tuple elts kk tpos) G (Ite K p) (enumD 0 ds) where
  go := fun i H s hi => by
    rw [enumD_len] at hi
    have h1 : i < vs.length := by rw [r.length]; omega
    exact ⟨vs, _, SqL.of (s _ _ hp), List.getElem?_eq_getElem h1⟩
  stop := fun H s => ⟨vs, SqL.of (s _ _ hp), by rw [enumD_len, r.length]; omega⟩
  yld := fun i H x H' s hi y => by
    obtain ⟨T, x, rfl, hT, rfl, f1⟩ := y
    obtain ⟨d, hd, rd⟩ := r.getV (f1 _ (SqL.of (s _ _ hp)))
    exact ⟨_, enumD_at hd, .inr ⟨⟨_, _, _, rfl⟩, T, _, _, rfl, hT, rfl, rfl, .cons (by rw [Nat.zero_add]; exact .int _) (.cons rd .nil)⟩⟩
theorem ji_enum {T : M D} {p tpos : Pos} {elts : List Expr} {kk : Nat} (hm : X.mg "enumerate" = none) (ha : JM X R ρ a T) (hg : Gl X "enumerate" := by rfl)
    (hs : starEach [a] X.env = [(false, eval a X.env)] := by rfl) : JI X R ρ (.Tuple elts kk tpos) (.Call (.Name "enumerate" p) [a] [] pos) (fun q => T fun d => lift (dEnum d) q) := by
  refine PI.imp (pi_enum hg hm (ja_cons ha ja_nil hs) hs) fun σ H Rr ⟨G, m, q, S, t, k⟩ => ⟨G, m, (fun ds m => match ds with | [d] => lift (dEnum d) q m | _ => False), S, t, fun vs ds G1 H1 m1 S1 g1 r1 l1 q1 => ?_⟩
  cases r1 with
  | nil => cases l1
  | @cons v vs d ds r1 r2 =>
    cases r2 with
    | cons _ _ => cases l1
    | nil =>
      obtain ⟨es, hd, q1⟩ := q1
      cases r1 with
      | lst h1 ra =>
        cases hd
        exact ⟨_, _, rfl, SqL.of (S1.gh _ _ h1), k _ _ G1 H1 m1 S1 g1 (walk_e h1 ra) q1⟩
      | _ => cases hd
theorem jie_enum {o : Option D} {p tpos : Pos} {elts : List Expr} {kk : Nat} (hm : X.mg "enumerate" = none) (ha : JE X R ρ a o) (hg : Gl X "enumerate" := by rfl)
    (hs : starEach [a] X.env = [(false, eval a X.env)] := by rfl) : JIE X R ρ (.Tuple elts kk tpos) (.Call (.Name "enumerate" p) [a] [] pos) (C1 dEnum o) := (ji_enum hm ha hg hs).imp fun _ _ => lift1
end
theorem wk_ex {S α : Type} {ρ : List Cell} {env : S → List Cell} {kk : S → Option α} (s : S) (w : Wk ρ (env s)) : ∃ s', Wk ρ (env s') ∧ kk s = kk s' := ⟨s, w, rfl⟩

section
variable {α S : Type} {X : Cx} {R : Res} {rk : RK α} {ρ : List Cell} {st : Stmt} {rest body A B' : List Stmt} {κ : KtE α} {e c tg iter : Expr} {pos : Pos} {env : S → List Cell} {s0 : S} {k : S → Option α}
end
end Dl

set_option Elab.async false
set_option linter.all false
set_option autoImplicit false
set_option maxRecDepth 100000
set_option maxHeartbeats 1000000
namespace Dl
open PySem L2

abbrev penL (ca : Addr) (i v : Nat) : HO := .lst [.ref ca, .int i, .int v]
def rPen (pa ca : Addr) (cs : List Int) (ent : Hp) : Res where
  vol := fun a => a = pa
  S := fun G => G ca = some (.lst (cs.map V.int))
  Dy := fun H m => ∃ i v : Nat, H pa = some (penL ca i v) ∧ i ≤ m
  sm := fun e h => e _ _ h
  dm := fun e h => by obtain ⟨i, v, h, l⟩ := h; exact ⟨i, v, by rw [e _ rfl]; exact h, l⟩
  ent := ent
/-- two numbers as one -/
def enc (i v : Nat) : Nat := (i + v) * (i + v) + i
theorem enc_lt {s t a b : Nat} (h : s < t) (ha : a ≤ s) : s * s + a < t * t + b := by
  have h1 : (s + 1) * (s + 1) ≤ t * t := Nat.mul_le_mul h h
  have h2 : (s + 1) * (s + 1) = s * s + s + s + 1 := by simp [Nat.mul_add, Nat.add_mul]; omega
  omega
theorem enc_inj {i v j u : Nat} (h : enc i v = enc j u) : i = j ∧ v = u := by
  unfold enc at h
  rcases Nat.lt_trichotomy (i + v) (j + u) with z | z | z
  · have := enc_lt (a := i) (b := j) z (by omega)
    omega
  · rw [z] at h
    omega
  · have := enc_lt (a := j) (b := i) z (by omega)
    omega
/-- .. its state known: what _law_take itself works with -/
def rTake (pa ca : Addr) (cs : List Int) (ent : Hp) : Res where
  vol := fun a => a = pa
  S := fun G => G ca = some (.lst (cs.map V.int))
  Dy := fun H m => ∃ i v : Nat, m = enc i v ∧ H pa = some (penL ca i v)
  sm := fun e h => e _ _ h
  dm := fun e h => by obtain ⟨i, v, l, h⟩ := h; exact ⟨i, v, l, by rw [e _ rfl]; exact h⟩
  ent := ent
def penD (cs : List Int) (i v : Nat) : List D := [.list (cs.map PyData.int), .int i, .int v]
def penAt (cs : List Int) (j : Nat) : M D := fun q m => ∃ i v d, m = enc i v ∧ (penD cs i v)[j]? = some d ∧ q d m

section
variable {X : Cx} {ρ : List Cell} {e a b c : Expr} {es : List Expr} {pos p p2 : Pos} {x y : Str} {pa ca : Addr} {cs : List Int} {ent : Hp} {k n : Nat}
/-- pen[j], read -/
theorem jm_pix {j : Nat} {j2} (i : Nat) (hj : j < 3) (hρ : ρ[i]? = some (.raw (.ref pa)) := by rfl) (hN : X.N[i]? = some x := by rfl) (hv : Vis X.env.scope x := by first | exact Or.inl rfl | exact Or.inr (Or.inl rfl) | exact Or.inr (Or.inr rfl))
    (hd : (x == ("__debug__" : Str)) = false := by decide) (hcd : (x == ("__classdict__" : Str)) = false := by decide) : JM X (rTake pa ca cs ent) ρ (.Subscript (.Name x p) (.Constant (.int j) j2 p2) pos) (penAt cs j) := by
  refine PE.imp (pe_ix or_ix0 (pe_var (i := i) hN hv hd hcd) pe_int (fun _ _ => rfl)) fun σ H Q ⟨G, m, q, S, t, k⟩ => ?_
  obtain ⟨i', v', d, hm, hd', hq⟩ := t
  have e1 : σ[i]? = some (some (.ref pa)) := S.cell i _ hρ
  obtain ⟨i2, v2, hm2, hp⟩ := S.jd
  rw [hm] at hm2
  obtain ⟨rfl, rfl⟩ := enc_inj hm2
  refine ⟨_, e1, ?_⟩
  have key : ∃ v, [V.ref ca, V.int i', V.int v'][j]? = some v ∧ Rp G v d := by
    match j, hj, hd' with
    | 0, _, hd' => cases hd'; exact ⟨_, rfl, .lst S.js RpL.ofInts⟩
    | 1, _, hd' => cases hd'; exact ⟨_, rfl, .int _⟩
    | 2, _, hd' => cases hd'; exact ⟨_, rfl, .int _⟩
  obtain ⟨v, hv', r⟩ := key
  refine .inl ⟨pa, _, (j : Int), v, rfl, rfl, SqL.of hp, ?_, k v d G H m S (Grow.refl _ _ _) r hq⟩
  match j, hj, hv' with
  | 0, _, hv' => exact hv'
  | 1, _, hv' => exact hv'
  | 2, _, hv' => exact hv'
variable {α : Type} {rk : RK α} {rest : List Stmt} {κ : Kt} {q : α → Nat → Prop}
/-- what pen[1] = e, pen[2] = e make of the state -/
def penSet (j : Nat) (d : D) (k : Nat → Prop) (m : Nat) : Prop := ∃ i v n : Nat, m = enc i v ∧ d = .int n ∧ ((j = 1 ∧ k (enc n v)) ∨ (j = 2 ∧ k (enc i n)))
theorem jk_pset {j : Nat} {j2} {T : M D} {kk : Nat → Prop} (i : Nat) (he : JM X (rTake pa ca cs ent) ρ e T) (hr : JK X (rTake pa ca cs ent) rk ρ rest κ q kk) (hρ : ρ[i]? = some (.raw (.ref pa)) := by rfl) (hN : X.N[i]? = some x := by rfl)
    (hv : Vis X.env.scope x := by first | exact Or.inl rfl | exact Or.inr (Or.inl rfl) | exact Or.inr (Or.inr rfl)) (hd : (x == ("__debug__" : Str)) = false := by decide) (hcd : (x == ("__classdict__" : Str)) = false := by decide)
    (ha : ∀ v, assign (.Subscript (.Name x p) (.Constant (.int j) j2 p2) pos) X.env v = (do let ov ← holding [v] (eval (.Name x p) X.env); let iv ← holding [v, ov] (eval (.Constant (.int j) j2 p2) X.env); standAt pos; holding [v, ov, iv] (setItem ov iv v); release [v, ov, iv] []) := by intro _; rfl)
    {spos : Pos} (hs : swapsWithSole [.Subscript (.Name x p) (.Constant (.int j) j2 p2) pos] e spos.line X.env = pure false := by rfl) (hw : swappedStores [.Subscript (.Name x p) (.Constant (.int j) j2 p2) pos] e X.env = pure none := by rfl)
    (h1 : (assignEach [.Subscript (.Name x p) (.Constant (.int j) j2 p2) pos] X.env).map (·.2) = [assign (.Subscript (.Name x p) (.Constant (.int j) j2 p2) pos) X.env] := by rfl) :
    JK X (rTake pa ca cs ent) rk ρ (.Assign [.Subscript (.Name x p) (.Constant (.int j) j2 p2) pos] e spos :: rest) κ q (T fun d => penSet j d kk) := by
  refine PSs.imp (pss_cons (ps_asg he (pg_sub (pe_var (i := i) hN hv hd hcd) pe_int set_list ha) hs hw h1) hr) fun Dn σ H ⟨Gb, G, m, S, g, t, ls⟩ => ⟨G, m, _, S, t, fun v d G1 H1 m1 S1 g1 r1 q1 => ?_⟩
  obtain ⟨i', v', n, hm, rfl, q1⟩ := q1
  cases r1
  have e1 : σ[i]? = some (some (.ref pa)) := S1.cell i _ hρ
  obtain ⟨i2, v2, hm2, hp⟩ := S1.jd
  rw [hm] at hm2
  obtain ⟨rfl, rfl⟩ := enc_inj hm2
  have gp : G1 pa = none := S1.vg pa rfl
  have key : ∀ (i3 v3 : Nat), kk (enc i3 v3) → tK (rTake pa ca cs ent) rk ρ κ q kk Dn σ (upd H1 pa (penL ca i3 v3)) := fun i3 v3 hk => by
    have g2 : Grow (rTake pa ca cs ent).vol G1 H1 G1 (upd H1 pa (penL ca i3 v3)) := ⟨Same.refl _, fun a o nv h => by rw [upd_ne fun z : a = pa => nv z]; exact h, fun a ga _ => ga⟩
    have S2 : Sit (rTake pa ca cs ent) σ ρ G1 (upd H1 pa (penL ca i3 v3)) (enc i3 v3) := S1.grow g2 (fun a o h => by rw [upd_ne (ne_of_none h gp)]; exact S1.gh a o h) (fun a va => by
      have va : a = pa := va
      subst va
      rw [upd_same]; exact fun z => nomatch z) ⟨i3, v3, rfl, upd_same⟩
    exact ⟨Gb, G1, _, S2, (S.tr g g1).trans S1.vh g2, hk, ls.sm g1.gg⟩
  refine ⟨.ref pa, e1, ?_⟩
  rcases q1 with ⟨rfl, hk⟩ | ⟨rfl, hk⟩
  · exact ⟨pa, [.ref ca, .int i', .int v'], 1, 1, rfl, rfl, hp, rfl, key n v' hk⟩
  · exact ⟨pa, [.ref ca, .int i', .int v'], 2, 2, rfl, rfl, hp, rfl, key i' n hk⟩
end

def spM {α : Type} (rk : RK α) (n : Nat) (F : List D → M α) : Sp := fun vs H Q _ => ∃ pa ca cs G m ws ds q, vs = .ref pa :: ws ∧ Sat (rPen pa ca cs H) G H m ∧ RpL G ws ds ∧ ds.length = n ∧ F ds q m ∧
  ∀ v a G' H' m', Sat (rPen pa ca cs H) G' H' m' → Grow (fun a => a = pa) G H G' H' → rk.rel H G' H' v a → q a m' → Q v H'
def drawM {α : Type} (Ts : M (List D)) (F : List D → M α) : M α := fun q => Ts fun ds => F ds q
section
variable {X : Cx} {ρ : List Cell} {e a b c : Expr} {es : List Expr} {pos p p2 : Pos} {x y : Str} {pa ca : Addr} {cs : List Int} {ent : Hp} {k n i : Nat}
theorem Sat.atEnt {pa ca : Addr} {cs : List Int} {ent : Hp} {G H : Hp} {m : Nat} (S : Sat (rPen pa ca cs ent) G H m) : Sat (rPen pa ca cs H) G H m := ⟨S.gh, S.vg, S.vh, S.js, S.jd, fun _ h => h⟩
theorem jm_pn {F : List D → M D} {Ts : M (List D)} (i : Nat) (h : Kn X.prog X.w X.K X.mg X.base x k (spM .dat n F)) (B : Bx X k) (ha : JA X (rPen pa ca cs ent) ρ es n Ts) (hρ : ρ[i]? = some (.raw (.ref pa)) := by rfl) (hN : X.N[i]? = some y := by rfl)
    (hv : Vis X.env.scope y := by first | exact Or.inl rfl | exact Or.inr (Or.inl rfl) | exact Or.inr (Or.inr rfl)) (hd : (y == ("__debug__" : Str)) = false := by decide) (hcd : (y == ("__classdict__" : Str)) = false := by decide) (hg : Gl X x := by rfl)
    (hdb : (x == ("__debug__" : Str)) = false := by decide) (he : starEach (.Name y p2 :: es) X.env = (false, eval (.Name y p2) X.env) :: starEach es X.env := by rfl) (hpl : (backTo pos (starEach es X.env)).any (·.1) = false := by rfl) :
    JM X (rPen pa ca cs ent) ρ (.Call (.Name x p) (.Name y p2 :: es) [] pos) (drawM Ts F) := by
  refine PE.imp (pe_kn h B (pa_cons (pe_var (i := i) hN hv hd hcd) ha he) hg hdb he hpl) fun σ H Q ⟨G, m, q, S, t, k⟩ => ⟨_, S.cell i _ hρ, G, m, _, S, t, fun vs ds G1 H1 m1 S1 g1 r1 l1 q1 => ?_⟩
  refine ⟨pa, ca, cs, G1, m1, vs, ds, q, rfl, Sat.atEnt S1.toSat, r1, l1, q1, fun v d G2 H2 m2 S2 g2 r2 q2 => ?_⟩
  exact k v d G2 H2 m2 (S1.grow (R := rPen pa ca cs ent) g2 S2.gh S2.vh S2.jd) (g1.trans S1.vh g2) r2 q2
end
def startP (N : List Str) (pa : Addr) (ds : List D) : List Cell := .raw (.ref pa) :: (ds.map Cell.dat ++ List.replicate (N.length - (ds.length + 1)) Cell.no)
theorem sit_startP {N : List Str} {R : Res} {pa : Addr} {vs : List V} {ds : List D} {G H : Hp} {m : Nat} (S : Sat R G H m) (r : RpL G vs ds) : Sit R (L2.start N (.ref pa :: vs)) (startP N pa ds) G H m := by
  have hl := r.length
  refine ⟨S, by simp [L2.start, startP, hl], fun i c e => ?_, fun i j es fs l e1 _ _ _ => ?_⟩
  · cases i with
    | zero => cases e; rfl
    | succ i =>
      have e : (ds.map Cell.dat ++ List.replicate (N.length - (ds.length + 1)) Cell.no)[i]? = some c := e
      by_cases hi : i < ds.length
      · rw [List.getElem?_append_left (by simpa using hi), List.getElem?_map, List.getElem?_eq_getElem hi] at e
        cases e
        obtain ⟨v, hv, rv⟩ := r.get (List.getElem?_eq_getElem hi)
        refine ⟨v, ?_, rv⟩
        unfold L2.start
        rw [List.getElem?_append_left (by simp; omega), List.getElem?_map]
        show (((V.ref pa :: vs)[i + 1]?).map some) = _
        rw [List.getElem?_cons_succ, hv]
        rfl
      · rw [List.getElem?_append_right (by simpa using hi), List.getElem?_replicate] at e
        split at e
        · cases e; trivial
        · cases e
  · cases i with
    | zero => cases e1
    | succ i =>
      have e1 : (ds.map Cell.dat ++ List.replicate (N.length - (ds.length + 1)) Cell.no)[i]? = some (.ow es) := e1
      by_cases hi : i < ds.length
      · rw [List.getElem?_append_left (by simpa using hi), List.getElem?_map, List.getElem?_eq_getElem hi] at e1
        cases e1
      · rw [List.getElem?_append_right (by simpa using hi), List.getElem?_replicate] at e1
        split at e1 <;> cases e1
section
variable {α : Type} {P : Program} {w : World} {K : PySem.W.Frag} {mg : Str → Option Value} {base : Heap}
theorem kn_pen {rk : RK α} [Falls rk] {F : List D → M α} {x : Str} {st : Stmt} {f : Addr} {fd : FuncData} {N ps : List Str} {k n : Nat} (Fn : Fun K x x st f fd) (mx : mg x = some (.ref f)) (bs : Binds K fd ps []) (Sc : FnScope N ps (defScope st)) (hn : ps.length = n + 1)
    (body : ∀ (cdv : Value) (A : Around) (outer : List Env) (s : Shared) (H : Hp) (E : XK), Bx (cxG P w K mg base N x st f cdv A outer s H E) k → ∀ (pa ca : Addr) (cs : List Int) (ds : List D), ds.length = n → ∀ q : α → Nat → Prop,
      JK (cxG P w K mg base N x st f cdv A outer s H E) (rPen pa ca cs H) rk (startP N pa ds) (defBody st) (KtF rk q) q (F ds q)) : Kn P w K mg base x (k + 1) (spM rk n F) := by
  refine ⟨f, fd, ps, fn_g Fn Sc (fun vs H Q E h => ?_) (fun cdv A outer s H vs Q E hg hr h => ?_), mx, Fn.kp, bs⟩
  · obtain ⟨pa, ca, cs, G, m, ws, ds, q, rfl, S, r, l, _⟩ := h
    simp [r.length, l, hn]
  · obtain ⟨pa, ca, cs, G, m, ws, ds, q, rfl, S, r, l, hF, k⟩ := h
    have B : Bx (cxG P w K mg base N x st f cdv A outer s H E) _ := ⟨hr, hg, rfl, Sc.nd, PassesOwn.never⟩
    have rt : Rt (rPen pa ca cs H) rk G q Q := fun v a G' H' m' S' g' rr hq => k v a G' H' m' S' g' rr hq
    refine ⟨_, (body cdv A outer s H E B pa ca cs ds l q).nox, G, G, m, sit_startP S r, Grow.refl _ _ _, hF, rt, ?_, ?_, ?_⟩
    · intro ρ' b σ' G' H' m' h hb S' g' _
      exact Falls.ok (R := rPen pa ca cs H) (Gb := G) rt h hb S' g'
    · intro _ _ _ _ _ _ h; exact h.elim
    · intro _ _ _ _ _ _ h; exact h.elim
/-- _law_take: its own body, the pen's state known; then the promise to all others -/
theorem kn_take {F : List D → M D} {F0 : List Int → D → M D} {x : Str} {st : Stmt} {f : Addr} {fd : FuncData} {N ps : List Str} {k : Nat} (Fn : Fun K x x st f fd) (mx : mg x = some (.ref f)) (bs : Binds K fd ps []) (Sc : FnScope N ps (defScope st)) (hn : ps.length = 2)
    (law : ∀ (cs : List Int) (d : D) (q : D → Nat → Prop) (m i v : Nat), F [d] q m → i ≤ m → F0 cs d (fun a n => ∃ i' v' m', n = enc i' v' ∧ i' ≤ m' ∧ q a m') (enc i v))
    (body : ∀ (cdv : Value) (A : Around) (outer : List Env) (s : Shared) (H : Hp) (E : XK), Bx (cxG P w K mg base N x st f cdv A outer s H E) k → ∀ (pa ca : Addr) (cs : List Int) (d : D), ∀ q : D → Nat → Prop,
      JK (cxG P w K mg base N x st f cdv A outer s H E) (rTake pa ca cs H) .dat (startP N pa [d]) (defBody st) (KtF .dat q) q (F0 cs d q)) : Kn P w K mg base x (k + 1) (spM .dat 1 F) := by
  refine ⟨f, fd, ps, fn_g Fn Sc (fun vs H Q E h => ?_) (fun cdv A outer s H vs Q E hg hr h => ?_), mx, Fn.kp, bs⟩
  · obtain ⟨pa, ca, cs, G, m, ws, ds, q, rfl, S, r, l, _⟩ := h
    simp [r.length, l, hn]
  · obtain ⟨pa, ca, cs, G, m, ws, ds, q, rfl, S, r, l, hF, k⟩ := h
    have B : Bx (cxG P w K mg base N x st f cdv A outer s H E) _ := ⟨hr, hg, rfl, Sc.nd, PassesOwn.never⟩
    match ds, l with
    | [d], _ =>
      obtain ⟨i, v, hp, hi⟩ := S.jd
      have S0 : Sat (rTake pa ca cs H) G H (enc i v) := ⟨S.gh, S.vg, S.vh, S.js, ⟨i, v, rfl, hp⟩, S.en⟩
      have rt : Rt (rTake pa ca cs H) .dat G (fun a n => ∃ i' v' m', n = enc i' v' ∧ i' ≤ m' ∧ q a m') Q := fun v a G' H' m' S' g' rr hq => by
        obtain ⟨i', v', m2, rfl, hi', hq⟩ := hq
        obtain ⟨i3, v3, h3, hp3⟩ := S'.jd
        obtain ⟨rfl, rfl⟩ := enc_inj h3
        exact k v a G' H' m2 ⟨S'.gh, S'.vg, S'.vh, S'.js, ⟨i', v', hp3, hi'⟩, S'.en⟩ g' rr hq
      refine ⟨_, (body cdv A outer s H E B pa ca cs d _).nox, G, G, enc i v, sit_startP S0 r, Grow.refl _ _ _, law cs d q m i v hF hi, rt, ?_, ?_, ?_⟩
      · intro ρ' b σ' G' H' m' h hb S' g' _
        exact Falls.ok (R := rTake pa ca cs H) (Gb := G) rt h hb S' g'
      · intro _ _ _ _ _ _ h; exact h.elim
      · intro _ _ _ _ _ _ h; exact h.elim
end
end Dl

set_option Elab.async false
set_option linter.all false
set_option autoImplicit false
set_option maxRecDepth 100000
set_option maxHeartbeats 1000000
namespace Dl
open PySem L2

def nilM : M (List D) := fun q m => q [] m
def consM (T : M D) (Ts : M (List D)) : M (List D) := fun q m => T (fun d m1 => Ts (fun ds m2 => q (d :: ds) m2) m1) m
def tupM (Ts : M (List D)) : M D := fun q => Ts fun ds => q (.tuple ds)
def lstM (Ts : M (List D)) : M D := fun q => Ts fun ds => q (.list ds)
def appM {β : Type} (Ts : M (List D)) (F : List D → Option β) : M β := fun q => Ts fun ds => lift (F ds) q
def bindM {β : Type} (T : M D) (f : D → Option β) : M β := fun q => T fun d m => lift (f d) q m
def ifM {β : Type} (Tc : M Bool) (Ta Tb : M β) : M β := fun q m => Tc (fun t m1 => if t = true then Ta q m1 else Tb q m1) m
def ifK (Tc : M Bool) (A B : Nat → Prop) : Nat → Prop := Tc fun t m => if t = true then A m else B m
def lendM (T : M D) : M D := fun q => T fun d m => imm d = true ∧ q d m
def lendLM (T : M (List D)) : M (List D) := fun q => T fun d m => immL d = true ∧ q d m
def consDM (T : M D) (Ts : M (List Cell)) : M (List Cell) := fun q m => T (fun d m1 => Ts (fun cs m2 => q (.dat d :: cs) m2) m1) m
def consLM (T : M (List D)) (Ts : M (List Cell)) : M (List Cell) := fun q m => T (fun d m1 => Ts (fun cs m2 => q (.own d :: cs) m2) m1) m
def nilCM : M (List Cell) := fun q m => q [] m
def onDM (k : D → Nat → Prop) : Cell → Nat → Prop
  | .dat d => k d
  | _ => fun _ => False
def onLM (k : List D → Nat → Prop) : Cell → Nat → Prop
  | .ow (.list d) => k d
  | _ => fun _ => False
def cel2M (k : Cell → Cell → Nat → Prop) : List Cell → Nat → Prop
  | [c, d] => k c d
  | _ => fun _ => False
section
variable {X : Cx} {R : Res} {ρ : List Cell} {e a b c : Expr} {es rest' : List Expr} {pos : Pos} {n : Nat}
theorem jam_nil : JA X R ρ [] 0 nilM := ja_nil
theorem jam_cons {T : M D} {Ts : M (List D)} (ha : JM X R ρ e T) (hs : JA X R ρ es n Ts) (hst : starEach (e :: es) X.env = (false, eval e X.env) :: starEach es X.env := by rfl) : JA X R ρ (e :: es) (n + 1) (consM T Ts) := ja_cons ha hs hst
theorem jm_tupM {Ts : M (List D)} {x1} (h : JA X R ρ es n Ts) (hn : n ≤ 1000 := by decide) : JM X R ρ (.Tuple es x1 pos) (tupM Ts) := jm_tup h hn
theorem JL.jmM {T : M (List D)} (h : JL X R ρ e T) : JM X R ρ e (lstM T) := h.jm
theorem jm_opM {op : Operator} {r : R2} {f : D → D → Option D} {Ta Tb : M D} (hr : OpR X (binaryOp op) r) (ho : OpD r f) (ha : JM X R ρ a Ta) (hb : JM X R ρ b Tb) : JM X R ρ (.BinOp a op b pos) (op2 f Ta Tb) := jm_op hr ho ha hb
theorem jt_cmpM {op : CmpOp} {r : R2} {f : D → D → Option D} {Ta Tb : M D} (hr : OpR X (compareOp op) r) (ho : OpD r f) (ha : JM X R ρ a Ta) (hb : JM X R ρ b Tb) (hm : behindInMarks op b = false) : JT X R ρ (.Compare a [op] [b] pos) (bindM (op2 f Ta Tb) asB) := jt_cmp hr ho ha hb hm
theorem jm_ixM {Ta Tb : M D} (hu : X.A.units + 65 < cLine) (ha : JM X R ρ a Ta) (hb : JM X R ρ b Tb) (hs : PlainIx b := by exact fun _ _ => rfl) : JM X R ρ (.Subscript a b pos) (op2 dIx Ta Tb) := jm_ix (or_ix hu) od_ix ha hb hs
theorem jm_ifM {Tc : M Bool} {Ta Tb : M D} (hc : JT X R ρ c Tc) (ha : JM X R ρ a Ta) (hb : JM X R ρ b Tb) : JM X R ρ (.IfExp c a b pos) (ifM Tc Ta Tb) := jm_if hc ha hb
theorem JM.lendM' {T : M D} (h : JM X R (brw ρ) e T) : JM X R ρ e (lendM T) := JM.lend h
theorem JL.lendM' {T : M (List D)} (h : JL X R (brw ρ) e T) : JL X R ρ e (lendLM T) := JL.lend h
variable {x : Str} {id T : String} {p : Pos} {r : List V → Hp → VK → Prop} {k : Nat}
theorem jm_callBM {F : List D → Option D} {Ts : M (List D)} (hr : CallR X (.builtin id) r) (hF : CallD r F) (hm : X.mg x = none) (hv : bootBuiltins x = some (.builtin id)) (ha : JA X R ρ (e :: es) n Ts) (hg : Gl X x := by rfl) (hn : x ≠ "__name__" := by decide) (hdb : (x == ("__debug__" : Str)) = false := by decide)
    (he : starEach (e :: es) X.env = (false, eval e X.env) :: starEach es X.env := by rfl) (hpl : (backTo pos (starEach es X.env)).any (·.1) = false := by rfl) : JM X R ρ (.Call (.Name x p) (e :: es) [] pos) (appM Ts F) := jm_callB hr hF hm hv ha hg hn hdb he hpl
theorem jm_callTyM {F : List D → Option D} {Ts : M (List D)} (hr : CallR X (.type T) r) (hF : CallD r F) (hm : X.mg x = none) (hv : bootBuiltins x = some (.type T)) (ha : JA X R ρ (e :: es) n Ts) (hg : Gl X x := by rfl) (hn : x ≠ "__name__" := by decide) (hdb : (x == ("__debug__" : Str)) = false := by decide)
    (he : starEach (e :: es) X.env = (false, eval e X.env) :: starEach es X.env := by rfl) (hpl : (backTo pos (starEach es X.env)).any (·.1) = false := by rfl) : JM X R ρ (.Call (.Name x p) (e :: es) [] pos) (appM Ts F) := jm_callTy hr hF hm hv ha hg hn hdb he hpl
theorem jm_knM {F : List D → Option D} {Ts : M (List D)} (h : Kn X.prog X.w X.K X.mg X.base x k (spR .dat n F)) (B : Bx X k) (ha : JA X R ρ (e :: es) n Ts) (hg : Gl X x := by rfl) (hdb : (x == ("__debug__" : Str)) = false := by decide)
    (he : starEach (e :: es) X.env = (false, eval e X.env) :: starEach es X.env := by rfl) (hpl : (backTo pos (starEach es X.env)).any (·.1) = false := by rfl) : JM X R ρ (.Call (.Name x p) (e :: es) [] pos) (appM Ts F) := jm_kn h B ha hg hdb he hpl
variable {tg : Expr}
theorem ji_range1M {Ta : M D} (hm : X.mg "range" = none) (ha : JM X R ρ a Ta) (hg : Gl X "range" := by rfl) (hs : starEach [a] X.env = [(false, eval a X.env)] := by rfl) : JI X R ρ tg (.Call (.Name "range" p) [a] [] pos) (appM (consM Ta nilM) dRange) := ji_range1 hm (ja_cons ha ja_nil hs) hg hs
variable {iter elt : Expr} {ifs : List Expr} {scope : Scope} {own : List (Str × Nat)}
theorem okT_nilM : OkT X R scope ρ [] (lift (some true)) := okTE_nil
theorem jl_lc1M {Ti : M (List D)} {i : Nat} {Tt : D → M Bool} {Te : D → M D} (B : Bx X k) (hi : JI X R ρ tg iter Ti) (ok : BlkOk X.N X.env.scope scope own)
    (hg : ∀ (s : Shared) (H : Hp) (C : Addr) (cl : List (Str × Addr)) (fp : List Addr), JG (X.blk s H scope (compEnvC scope cl C X.env) fp) R tg [i] (bd1 i))
    (ht : ∀ d, OkT X R scope ((wipeC ρ (own.map (·.2))).set i (.dat d)) ifs (Tt d)) (he : ∀ d, OkE X R scope ((wipeC ρ (own.map (·.2))).set i (.dat d)) elt (Te d))
    (hsl : ∀ j ∈ [i], j ∈ own.map (·.2) := by decide) (hs : ∀ x, foldedSetIterable iter X.env x = pure x := by intro _; rfl) : JL X R ρ (.ListComp elt [⟨tg, iter, ifs, 0⟩] scope pos) (lcM Ti fun d => turnM (Tt d) (Te d)) :=
  jl_lc B hi ok hsl hg (f := fun d => turnM (Tt d) (Te d)) (fun d q m h => ⟨_, _, _, rfl, ht d, he d, h⟩) hs
theorem st_lc1M {Ti : M (List D)} {i j : Nat} {y : Str} {py spos : Pos} {Tt : D → M Bool} {Te : D → M D} (B : Bx X k) (hi : JI X R ρ tg iter Ti) (ok : BlkOk X.N X.env.scope scope own)
    (hg : ∀ (s : Shared) (H : Hp) (C : Addr) (cl : List (Str × Addr)) (fp : List Addr), JG (X.blk s H scope (compEnvC scope cl C X.env) fp) R tg [i] (bd1 i))
    (ht : ∀ d, OkT X R scope ((wipeC ρ (own.map (·.2))).set i (.dat d)) ifs (Tt d)) (he : ∀ d, OkE X R scope ((wipeC ρ (own.map (·.2))).set i (.dat d)) elt (Te d))
    (hy : X.N[j]? = some y := by rfl) (hyl : X.env.scope.names.lookup y = some .local := by rfl) (hsw : swapsWith (.ListComp elt [⟨tg, iter, ifs, 0⟩] scope pos) (some (.Name y py)) spos.line X.env = pure true := by rfl)
    (hsl : ∀ j ∈ [i], j ∈ own.map (·.2) := by decide) (hs : ∀ x, foldedSetIterable iter X.env x = pure x := by intro _; rfl) : PS X (.Assign [.Name y py] (.ListComp elt [⟨tg, iter, ifs, 0⟩] scope pos) spos) (tAsg (tL R ρ (lcM Ti fun d => turnM (Tt d) (Te d))) (gName j)) :=
  js_lc B hy hyl hsw hi ok hsl hg (f := fun d => turnM (Tt d) (Te d)) (fun d q m h => ⟨_, _, _, rfl, ht d, he d, h⟩) hs
end
section
variable {α S : Type} {X : Cx} {R : Res} {rk : RK α} {ρ : List Cell} {st : Stmt} {rest body A B' : List Stmt} {κ : Kt} {q : α → Nat → Prop} {e c tg iter : Expr} {pos : Pos} {env : S → List Cell} {s0 : S} {k : S → Nat → Prop}
theorem jk_ifM {Tc : M Bool} {aA aB : Nat → Prop} (hc : JT X R ρ c Tc) (hA : JK X R rk ρ A ⟨fun ρ' b => JK X R rk ρ' rest κ q b, κ.bk, κ.ct⟩ q aA) (hB : JK X R rk ρ B' ⟨fun ρ' b => JK X R rk ρ' rest κ q b, κ.bk, κ.ct⟩ q aB) :
    JK X R rk ρ (.If c A B' pos :: rest) κ q (ifK Tc aA aB) := jk_if hc hA hB
theorem jk_ifJM {S : Type} {env : S → List Cell} {k : S → Nat → Prop} {Tc : M Bool} {aA aB : (S → Nat → Prop) → Nat → Prop} (hc : JT X R ρ c Tc) (hA : ∀ kk, JK X R rk ρ A (KtJ env kk κ) q (aA kk)) (hB : ∀ kk, JK X R rk ρ B' (KtJ env kk κ) q (aB kk)) (hr : ∀ s, JK X R rk (env s) rest κ q (k s)) :
    JK X R rk ρ (.If c A B' pos :: rest) κ q (joinK k fun kk => ifK Tc (aA kk) (aB kk)) := jk_ifJ hc hA hB hr
theorem wk_exM {kk : S → Nat → Prop} (s : S) (w : Wk ρ (env s)) : ∃ s', Wk ρ (env s') ∧ ∀ m, kk s m → kk s' m := ⟨s, w, fun _ h => h⟩
theorem jk_for1 {Ti : M (List D)} {i n : Nat} {bodyM : S → D → (S → Nat → Prop) → Nat → Prop} (B : Bx X n) (hi : JI X R ρ tg iter Ti) (hg : JG X R tg [i] (bd1 i)) (w0 : Wk ρ (env s0))
    (hb : ∀ (s : S) (d : D) (kk : S → Nat → Prop), JK X R rk ((env s).set i (.dat d)) body (KtL env kk fun ρ' b => JK X R rk ρ' rest κ q b) q (bodyM s d kk)) (hr : ∀ s, JK X R rk (env s) rest κ q (k s)) (hs : ∀ x, foldedSetIterable iter X.env x = pure x := by intro _; rfl) :
    JK X R rk ρ (.For tg iter body [] pos :: rest) κ q (Ti fun ds => forK bodyM ds s0 k) := jk_for B hi hg w0 (fun s d kk m _ => ⟨_, rfl, hb s d kk⟩) hr hs
theorem jk_onD {c : Cell} {k : D → Nat → Prop} {sts : List Stmt} {f : Cell → List Cell} (h : ∀ d, JK X R rk (f (.dat d)) sts κ q (k d)) : JK X R rk (f c) sts κ q (onDM k c) := by
  cases c with
  | dat d => exact h d
  | _ => exact ⟨fun _ _ _ _ _ _ ⟨_, _, _, _, _, t, _⟩ => t.elim⟩
theorem jk_onL {c : Cell} {k : List D → Nat → Prop} {sts : List Stmt} {f : Cell → List Cell} (h : ∀ d, JK X R rk (f (.own d)) sts κ q (k d)) : JK X R rk (f c) sts κ q (onLM k c) := by
  match c with
  | .ow (.list d) => exact h d
  | .no | .dat _ | .raw _ | .ow .none | .ow (.bool _) | .ow (.int _) | .ow (.str _) | .ow (.tuple _) | .ow (.dict _) => exact ⟨fun _ _ _ _ _ _ ⟨_, _, _, _, _, t, _⟩ => t.elim⟩
end
end Dl

set_option Elab.async false
set_option linter.all false
set_option autoImplicit false
set_option maxRecDepth 100000
set_option maxHeartbeats 1000000
namespace Dl
open PySem L2 PySem.Spec PyProof.Rows

def rScr (K : PySem.W.Frag) (a : Addr) (ns : List Int) (ent : Hp) : Res where
  vol := fun _ => False
  S := fun G => SqL K G a (ns.map V.int)
  Dy := fun _ _ => True
  sm := fun e h => by
    rcases h with (h | ⟨o, h⟩) | h
    · exact .inl (.inl (e _ _ h))
    · exact .inl (.inr ⟨o, e _ _ h⟩)
    · exact .inr h
  dm := fun _ _ => trivial
  ent := ent
section
variable {X : Cx} {ρ : List Cell} {e : Expr} {es : List Expr} {pos p p2 p3 p4 p5 px : Pos} {x y : Str} {a : Addr} {ns : List Int} {ent : Hp} {k n : Nat} {lo hi : Option Expr}
theorem cut_map (ns : List Int) (lo hi : Option Int) : ∃ ms : List Int, cutV (ns.map V.int) lo hi = ms.map V.int ∧ cutD (ns.map PyData.int) lo hi = ms.map PyData.int := by
  refine ⟨(ns.drop (HT.sIx ns.length 0 lo)).take (HT.sIx ns.length ns.length hi - HT.sIx ns.length 0 lo), ?_, ?_⟩
  · unfold cutV; simp
  · unfold cutD; simp
/-- script[lo:hi] -/
theorem je_scr {ol oh : Option (Option Int)} (i : Nat) (hl : JO X (rScr X.K a ns ent) ρ lo (lift ol)) (hh : JO X (rScr X.K a ns ent) ρ hi (lift oh)) (hρ : ρ[i]? = some (.raw (.ref a)) := by rfl) (hN : X.N[i]? = some x := by rfl)
    (hv : Vis X.env.scope x := by first | exact Or.inl rfl | exact Or.inr (Or.inl rfl) | exact Or.inr (Or.inr rfl)) (hd : (x == ("__debug__" : Str)) = false := by decide) (hcd : (x == ("__classdict__" : Str)) = false := by decide) :
    JE X (rScr X.K a ns ent) ρ (.Subscript (.Name x p) (.Slice lo hi none p2) pos) (slO (some (.list (ns.map PyData.int))) ol oh) := by
  refine PE.imp (pe_slice sl_list (pe_var (i := i) hN hv hd hcd) hl hh) fun σ H Q ⟨G, m, q, S, t, k⟩ => ?_
  obtain ⟨z, hz, hq⟩ := t
  simp only [slO, Option.bind_some] at hz
  obtain ⟨l, h1, hz⟩ := Option.bind_eq_some_iff.mp hz
  obtain ⟨u, h2, hz⟩ := Option.bind_eq_some_iff.mp hz
  cases hz
  refine ⟨_, S.cell i _ hρ, G, m, (fun o m1 => o = l ∧ q (.list (cutD (ns.map PyData.int) l u)) m1), S, ⟨l, h1, rfl, hq⟩, fun o G1 H1 m1 S1 g1 q1 => ⟨G1, m1, (fun o m1 => o = u ∧ q (.list (cutD (ns.map PyData.int) l u)) m1), S1, ⟨u, h2, rfl, q1.2⟩, fun o2 G2 H2 m2 S2 g2 q2 => ?_⟩⟩
  obtain ⟨rfl, _⟩ := q1
  obtain ⟨rfl, q2⟩ := q2
  refine ⟨a, ns.map V.int, rfl, (rScr X.K a ns ent).sm S2.gh S2.js, fun p hp => ?_⟩
  obtain ⟨ms, e1, e2⟩ := cut_map ns o o2
  rw [e1]
  rw [e2] at q2
  obtain ⟨g4, s4⟩ := grow_new S2.gh hp (.lst (ms.map V.int))
  obtain ⟨S4, g4'⟩ := S2.growS g4 s4
  exact k _ _ _ _ m2 S4 ((g1.trans S1.vh g2).trans S2.vh g4') (.lst upd_same RpL.ofInts) q2
end
/-- what _law_open promises: F ns, a new list -/
def spOpen (K : PySem.W.Frag) (F : List Int → Option (List D)) : Sp := fun vs H Q _ => ∃ G a ns ds, vs = [.ref a] ∧ Same G H ∧ SqL K G a (ns.map V.int) ∧ F ns = some ds ∧ ∀ v G' H', Grow (fun _ => False) G H G' H' → Same G' H' → RK.lst.rel H G' H' v ds → Q v H'
section
variable {P : Program} {w : World} {K : PySem.W.Frag} {mg : Str → Option Value} {base : Heap}
theorem kn_open {F : List Int → Option (List D)} {x : Str} {st : Stmt} {f : Addr} {fd : FuncData} {N ps : List Str} {k : Nat} (Fn : Fun K x x st f fd) (mx : mg x = some (.ref f)) (bs : Binds K fd ps []) (Sc : FnScope N ps (defScope st)) (hn : ps.length = 1)
    (body : ∀ (cdv : Value) (A : Around) (outer : List Env) (s : Shared) (H : Hp) (E : XK), Bx (cxG P w K mg base N x st f cdv A outer s H E) k → ∀ (a : Addr) (ns : List Int),
      JKE (cxG P w K mg base N x st f cdv A outer s H E) (rScr K a ns H) .lst (startP N a []) (defBody st) KtFL (F ns)) : Kn P w K mg base x (k + 1) (spOpen K F) := by
  refine ⟨f, fd, ps, fn_g Fn Sc (fun vs H Q E h => ?_) (fun cdv A outer s H vs Q E hg hr h => ?_), mx, Fn.kp, bs⟩
  · obtain ⟨G, a, ns, ds, rfl, _⟩ := h
    rw [hn]; rfl
  · obtain ⟨G, a, ns, ds, rfl, gh, hS, hF, k⟩ := h
    have B : Bx (cxG P w K mg base N x st f cdv A outer s H E) _ := ⟨hr, hg, rfl, Sc.nd, PassesOwn.never⟩
    have S : Sat (rScr K a ns H) G H 0 := ⟨gh, fun _ z => z.elim, fun _ z => z.elim, hS, trivial, fun _ h => h⟩
    have rt : Rt (rScr K a ns H) .lst G (fun a' _ => a' = ds) Q := fun v a' G' H' m' S' g' rr e => by
      subst e
      exact k v G' H' g' S'.gh rr
    refine ⟨_, (body cdv A outer s H E B a ns ds).nox, G, G, 0, sit_startP S .nil, Grow.refl _ _ _, hF, rt, ?_, ?_, ?_⟩
    · intro _ _ _ _ _ _ h; obtain ⟨_, h, _⟩ := h; exact h.elim
    · intro _ _ _ _ _ _ h; obtain ⟨_, h, _⟩ := h; exact h.elim
    · intro _ _ _ _ _ _ h; obtain ⟨_, h, _⟩ := h; exact h.elim
end

def spLaw (K : PySem.W.Frag) : Sp := fun vs H Q _ => ∃ (a : Addr) (ns : List Int), vs = [.ref a] ∧ SqL K H a (ns.map V.int) ∧ ns.length ≤ 63 ∧ ∀ H', Q (.bl true) H'
def qTrue : D → Nat → Prop := fun d _ => d = .bool true
def tOpen (K : PySem.W.Frag) (F : List Int → Option (List D)) (a : Addr) : TE := fun σ H Q => ∃ G ns ds, σ[0]? = some (some (.ref a)) ∧ Same G H ∧ SqL K G a (ns.map V.int) ∧ F ns = some ds ∧ ∀ v G' H', Grow (fun _ => False) G H G' H' → Same G' H' → RK.lst.rel H G' H' v ds → Q v H'
section
variable {X : Cx} {pos p p2 p3 p4 p5 px : Pos} {x y z : Str} {a : Addr} {k : Nat} {F : List Int → Option (List D)}
theorem ps_open (i : Nat) (B : Bx X k) (h : Kn X.prog X.w X.K X.mg X.base x k (spOpen X.K F)) (hN : X.N[0]? = some y := by rfl) (hv : Vis X.env.scope y := by first | exact Or.inl rfl | exact Or.inr (Or.inl rfl) | exact Or.inr (Or.inr rfl)) (hd : (y == ("__debug__" : Str)) = false := by decide) (hcd : (y == ("__classdict__" : Str)) = false := by decide) (hg : Gl X x := by rfl)
    (hdb : (x == ("__debug__" : Str)) = false := by decide) (he : starEach [.Name y p2] X.env = (false, eval (.Name y p2) X.env) :: starEach [] X.env := by rfl) (hpl : (backTo p4 (starEach [] X.env)).any (·.1) = false := by rfl) (hi : X.N[i]? = some z := by rfl) (hx : Loc X.env.scope z := by first | exact Or.inl rfl | exact Or.inr rfl)
    (hs : swapsWith (.Call (.Name x p) [.Name y p2] [] p4) (some (.Name z p5)) pos.line X.env = pure false := by rfl) (hf : X.fn z = true ∨ X.env.scope.names.lookup z = some .local := by first | exact .inl rfl | exact .inr rfl) :
    PS X (.Assign [.Name z p5] (.Call (.Name x p) [.Name y p2] [] p4) pos) (tAsg (tOpen X.K F a) (gName i)) :=
  PS.imp (ps_set B.nd hi hx (pe_kn h B (pa_cons (pe_var (i := 0) hN hv hd hcd) pa_nil he) hg hdb he hpl) hs hf) fun Dn σ H ⟨G, ns, ds, e, gh, hS, hF, k⟩ => ⟨_, e, G, a, ns, ds, rfl, gh, hS, hF, k⟩
end
section
variable {P : Program} {w : World} {K : PySem.W.Frag} {mg : Str → Option Value} {base : Heap}
theorem law_g {F : List Int → Option (List D)} {L : List Int → Nat → Prop} {x : Str} {st st0 : Stmt} {rest : List Stmt} {f : Addr} {fd : FuncData} {N ps : List Str} {k i : Nat} (Fn : Fun K x x st f fd) (Sc : FnScope N ps (defScope st)) (hn : ps.length = 1) (hb : defBody st = st0 :: rest) (hi : 0 < i) (hiN : i < N.length)
    (hF : ∀ ns : List Int, ns.length ≤ 63 → ∃ cs : List Int, F ns = some [.list (cs.map PyData.int), .int 0, .int 0]) (hL : ∀ cs, L cs 0)
    (first : ∀ (cdv : Value) (A : Around) (outer : List Env) (s : Shared) (H : Hp) (E : XK), Bx (cxG P w K mg base N x st f cdv A outer s H E) k → ∀ a : Addr, PS (cxG P w K mg base N x st f cdv A outer s H E) st0 (tAsg (tOpen K F a) (gName i)))
    (body : ∀ (cdv : Value) (A : Around) (outer : List Env) (s : Shared) (H : Hp) (E : XK), Bx (cxG P w K mg base N x st f cdv A outer s H E) k → ∀ (a pa ca : Addr) (cs : List Int),
      JK (cxG P w K mg base N x st f cdv A outer s H E) (rPen pa ca cs H) .dat ((startP N a []).set i (.raw (.ref pa))) rest (KtF .dat qTrue) qTrue (L cs)) : FnG P w K mg base CX0 (k + 1) f fd ps (spLaw K) := by
  refine fn_g Fn Sc (fun vs H Q E h => ?_) (fun cdv A outer s H vs Q E hg hr h => ?_)
  · obtain ⟨a, ns, rfl, _⟩ := h
    rw [hn]; rfl
  · obtain ⟨a, ns, rfl, hS, hl, hQ⟩ := h
    have B : Bx (cxG P w K mg base N x st f cdv A outer s H E) _ := ⟨hr, hg, rfl, Sc.nd, PassesOwn.never⟩
    obtain ⟨cs, hcs⟩ := hF ns hl
    rw [hb]
    refine ⟨_, (pss_cons (first cdv A outer s H E B a) (pss_any fun z : Addr × Addr => body cdv A outer s H E B a z.1 z.2 cs)).nox, ?_⟩
    -- what is known of the heap: the script alone
    have hG : ∃ G : Hp, Same G H ∧ SqL K G a (ns.map V.int) := by
      refine ⟨fun b => if b = a then H a else none, fun b o e => ?_, ?_⟩
      · have e : (if b = a then H a else none) = some o := e
        by_cases z : b = a
        · rw [if_pos z] at e; rw [z]; exact e
        · rw [if_neg z] at e; cases e
      · rcases hS with (h | ⟨o, h⟩) | h
        · exact .inl (.inl ((if_pos rfl).trans h))
        · exact .inl (.inr ⟨o, (if_pos rfl).trans h⟩)
        · exact .inr h
    obtain ⟨G, gh, hSG⟩ := hG
    refine ⟨G, ns, _, ?_, gh, hSG, hcs, fun v G' H' g' s' rr => ?_⟩
    · rfl
    · obtain ⟨pa, ws, rfl, en, gp, hp, r⟩ := rr
      cases r with
      | cons r1 r =>
        cases r with
        | cons r2 r =>
          cases r with
          | cons r3 r =>
            cases r
            cases r2
            cases r3
            cases r1 with
            | @lst ca us _ hca rc =>
              have e := rc.ints
              subst e
              have S : Sat (rPen pa ca cs H) G' H' 0 := ⟨s', fun b vb => by
                have vb : b = pa := vb
                subst vb; exact gp, fun b vb => by
                have vb : b = pa := vb
                subst vb; rw [hp]; exact fun z => (nomatch z), hca, ⟨0, 0, hp, Nat.le_refl _⟩, fun b hb => free_of g' (fun _ z => z.elim) hb⟩
              have S1 : Sit (rPen pa ca cs H) (L2.start N [.ref a]) (startP N a []) G' H' 0 := sit_startP S .nil
              have S2 := S1.setC i (some (.ref pa)) (.raw (.ref pa)) (fun _ z => nomatch z) rfl
              have rt : Rt (rPen pa ca cs H) .dat G' qTrue Q := fun v d G2 H2 m2 S2 g2 rr e => by
                have e : d = .bool true := e
                subst e
                cases rr
                exact hQ H2
              have g0 : Grow (rPen pa ca cs H).vol G' H G' H' := ⟨Same.refl _, fun b o nv h => g'.hh b o (fun z => z) h, fun b gb _ => gb⟩
              refine ⟨(pa, ca), G', G', 0, S2, g0, hL cs, rt, ?_, ?_, ?_⟩
              · intro ρ' b σ' G2 H2 m' h hb S' g2 _
                exact Falls.ok (R := rPen pa ca cs H) (Gb := G') rt h hb S' g2
              · intro _ _ _ _ _ _ h; exact h.elim
              · intro _ _ _ _ _ _ h; exact h.elim
end
end Dl

set_option Elab.async false
set_option linter.all false
set_option autoImplicit false
set_option maxRecDepth 100000
set_option maxHeartbeats 1000000
namespace Dl
open PySem L2 PySem.Spec PyProof.Rows

abbrev Goal (P : Program) (w : World) (fa a : Addr) (t : Shared) : Prop := codeAny (model P w) callerA (.call (.ref fa) ⟨[.ref a], []⟩) (fun r z => r = .ok (.ret (.bool true)) ∧ OldK t.heap z.heap ∧ z.os = t.os ∧ AllBare z.gens) t
section
variable {P : Program} {w : World} {K : PySem.W.Frag} {mg mb : Str → Option Value} {k : Nat} {fa a : Addr} {fd : FuncData} {t : Shared} {vs : List Value} {ns : List Int}
/-- over an abstract heap T that tracks at most the script -/
theorem end_core (kin : K.In t.heap) (n1 : t.heap.Ns mainGlobals mg) (n2 : t.heap.Ns builtinsNs mb) (nb : ∀ x : Str, x ≠ "__name__" → mb x = bootBuiltins x) (nl : t.heap.NoLimit) (g0 : t.gens = #[]) (obj : t.heap.get? a = some { cls := .type "list", data := .seq vs.toArray })
    (room : Room k callerA) (short : ns.length ≤ 63) (F : ∀ base : Heap, K.In base → base.Ns mainGlobals mg → FnG P w K mg base CX0 k fa fd ["script"] (spLaw K)) (bind : ∀ (s : Shared) (u : Value), BindsTo s fd ⟨[u], []⟩ [("script", u)])
    (T : Hp) (only : Only T) (scr : SqL K T a (ns.map V.int)) (ok : HOk P w T t.heap) (at1 : ∀ b, T b ≠ none → b = a) (lk : T a ≠ none → K.lookup a = none) : Goal P w fa a t := by
  have same : ∀ {b : Addr}, T b ≠ none → b = a := fun {b} h => at1 b h
  have notdict : ∀ {b : Addr} {o : Obj} {es : Array DictEntry} {i : Nat}, t.heap.get? b = some o → o.data = .dict es i → T b = none := fun {b o es i} e d => Classical.byContradiction fun z => by
    have := same z; subst this
    rw [obj] at e; cases e
    have d' : Data.seq vs.toArray _ = Data.dict es i := d
    cases d'
  have ns' : ∀ {b : Addr} {m : Str → Option Value}, t.heap.Ns b m → (hidT t.heap T).Ns b m := fun {b m} z => by
    obtain ⟨o, es, i, e, d, r⟩ := z
    exact ⟨o, es, i, hidT_get e (notdict e d), d, r⟩
  have kin' : K.In (hidT t.heap T) := fun b o e => hidT_get (kin b o e) (Classical.byContradiction fun z => by
    have := same z; subst this
    rw [lk z] at e; cases e)
  have md : Mod K mg (hidT t.heap T) := by
    refine ⟨kin', ns' n1, ⟨mb, ns' n2, nb⟩, ?_⟩
    obtain ⟨mc, h1, h2⟩ := nl
    exact ⟨mc, ns' h1, h2⟩
  have env : Env0 P w K mg (hidT t.heap T) callerA [] t T := by
    refine ⟨rfl, md, fun b o e => of_hidT e, Nat.le_of_eq (hidT_size _ _), trivial, ?_, ok, .of_eq g0⟩
    intro b hb
    exact absurd (show b ∈ ([] : List Addr) from hb) (by simp)
  have run := (F _ kin' (ns' n1)).run callerA [] t T ⟨[.ref a], []⟩ [.ref a] [.ref a] (fun v _ => v = .bl true) (fun _ _ _ => False) rfl room env (bind t (.ref a)) (.cons rfl .nil) ⟨a, ns, rfl, scr, short, fun _ => rfl⟩
  refine codeAny_mono run fun r z h => ?_
  match r, h with
  | .ok (.ret u), h =>
    obtain ⟨v, T', os, bare, un, ok', rv, rfl⟩ := h
    obtain rfl : u = Value.bool true := rv
    refine ⟨rfl, OldK.of_keep fun b o e => ?_, os, bare⟩
    rcases only b with y | ⟨ob, xs, y⟩
    · exact un.keep b o e y (fun z => absurd (show b ∈ ([] : List Addr) from z) (by simp)) (by simp)
    · have y2 := un.frzs b ob _ y
      have e1 := (ok b _ y).1
      rw [e] at e1
      cases e1
      exact (ok' b _ y2).1
  | .error e, h => exact False.elim h
theorem end_call (kin : K.In t.heap) (n1 : t.heap.Ns mainGlobals mg) (n2 : t.heap.Ns builtinsNs mb) (nb : ∀ x : Str, x ≠ "__name__" → mb x = bootBuiltins x) (nl : t.heap.NoLimit) (g0 : t.gens = #[]) (obj : t.heap.get? a = some { cls := .type "list", data := .seq vs.toArray })
    (hints : IntsAre vs ns) (room : Room k callerA) (short : ns.length ≤ 63) (F : ∀ base : Heap, K.In base → base.Ns mainGlobals mg → FnG P w K mg base CX0 k fa fd ["script"] (spLaw K)) (bind : ∀ (s : Shared) (u : Value), BindsTo s fd ⟨[u], []⟩ [("script", u)]) : Goal P w fa a t := by
  have rv := vals_ints hints
  have ll := hints.length
  have lz : ns.length ≤ sizeLine := Nat.le_trans short (by decide)
  have C := end_core kin n1 n2 nb nl g0 obj room short F bind
  cases hk : K.lookup a with
  | some o =>
    have e := kin a o hk
    rw [obj] at e
    cases e
    refine C (fun _ => none) (fun _ => .inl rfl) (.inr ⟨_, vs.toArray, _, hk, rfl, rfl, rfl, ?_, by simpa using rv⟩) (fun b u z => ?_) (fun b z => absurd rfl z) fun z => absurd rfl z
    · rw [List.size_toArray, ll]; exact lz
    · have z' : (none : Option HO) = some u := z
      cases z'
  | none =>
    let T : Hp := upd (fun _ => none) a (.frz { cls := .type "list", data := .seq vs.toArray } (.lst (ns.map V.int)))
    have off : ∀ {b : Addr}, b ≠ a → T b = none := fun {b} n => upd_ne n
    have on : T a = some (.frz { cls := .type "list", data := .seq vs.toArray } (.lst (ns.map V.int))) := upd_same
    refine C T (fun b => ?_) (.inl (.inr ⟨_, on⟩)) (fun b u z => ?_) (fun b z => Classical.byContradiction fun n => z (off n)) fun _ => hk
    · by_cases n : b = a
      · subst n; exact .inr ⟨_, _, on⟩
      · exact .inl (off n)
    · by_cases n : b = a
      · subst n
        rw [on] at z
        cases z
        exact ⟨obj, by rw [List.length_map]; exact lz, vs, _, rv, obj⟩
      · rw [off n] at z; cases z
end
/-- the goal that the head leaves, from the law's promise -/
theorem walkG {l : PySem.W.OpenLaw} {k : Nat} {q : Program} {loose : List Str} {XP : (Str → Option Value) → Heap → Prop} {YP : World → Heap → Prop} {d : DefRec} {K : Params → PySem.W.Frag} (most : l.most = some 63) (nodef : d.params.defaults = []) (room : Room k callerA)
    (inK : ∀ (w : World) (h : Heap), YP w h → (K w.params).In h) (F : ∀ (w : World) (mg : Str → Option Value) (fa : Addr) (h : Heap), (K w.params).In h → h.Ns mainGlobals mg → mg d.name = some (.ref fa) → ∃ fd : FuncData, (∀ (s : Shared) (u : Value), BindsTo s fd ⟨[u], []⟩ [("script", u)]) ∧
      ∀ base : Heap, (K w.params).In base → base.Ns mainGlobals mg → FnG l.prog w (K w.params) mg base CX0 k fa fd ["script"] (spLaw (K w.params))) : PySem.W.WalkO q loose XP YP l.row.toRowW d [] (fun f vs => PySem.call f vs) := by
  refine Att.attach_call most nodef fun w s0 t mg mb fa o pm cd doc a vs ns G Y ho hd hcd hmg obj hints short g0 => ?_
  obtain ⟨fd, bind, hF⟩ := F w mg fa _ (inK w _ Y) G.T.g hmg
  exact end_call (inK w _ Y) G.T.g G.T.b G.T.builtins G.T.nolimit g0 obj hints room short hF bind
end Dl

set_option Elab.async false
set_option linter.all false
set_option autoImplicit false
set_option maxRecDepth 100000
set_option maxHeartbeats 1000000
namespace Dl
open PySem L2
def G0 {α : Type} (f : M α) : List D → M α
  | [] => f
  | _ => fun _ _ => False
def G1 {α : Type} (f : D → M α) : List D → M α
  | [x] => f x
  | _ => fun _ _ => False
def G2 {α : Type} (f : D → D → M α) : List D → M α
  | [x, y] => f x y
  | _ => fun _ _ => False
def G3 {α : Type} (f : D → D → D → M α) : List D → M α
  | [x, y, z] => f x y z
  | _ => fun _ _ => False
def G4 {α : Type} (f : D → D → D → D → M α) : List D → M α
  | [x, y, z, u] => f x y z u
  | _ => fun _ _ => False
def G5 {α : Type} (f : D → D → D → D → D → M α) : List D → M α
  | [x, y, z, u, v] => f x y z u v
  | _ => fun _ _ => False
def m__law_open (ns : List Int) : Option (List D) :=
  ((C1 dItems (slO (some (.list (ns.map PyData.int))) (some none) ((some (PyData.int 12)).bind asI))).bind fun cells1 => ((C1 dEnum (slO (some (.list (ns.map PyData.int))) ((some (PyData.int 12)).bind asI) ((some (PyData.int 63)).bind asI))).bind fun ds => forO (S := List D) (fun s2 d kk3 => un2 d fun k6 cell7 => (setIO s2 (immO (b2 dAdd (b2 dIx (some (PyData.list s2)) (b2 dMod (C1 dInt (some k6)) (some (PyData.int 12)))) (some cell7))) (b2 dMod (C1 dInt (some k6)) (some (PyData.int 12))) fun cells8 => (kk3 cells8))) ds cells1 fun s5 => (consO (some (PyData.list s5)) (consO (some (PyData.int 0)) (consO (some (PyData.int 0)) (some []))))))
@[irreducible] def m__law_spread (cell1 at2 : D) : Option (D) :=
  (ifO ((b2 dGe (some cell1) (b2 dPow (some (PyData.int 10)) (some (PyData.int 18)))).bind asB) (some cell1) (((consO (some (PyData.int 2147483629)) (consO (some (PyData.int 2147483587)) (consO (some (PyData.int 2147483579)) (consO (some (PyData.int 2147483563)) (consO (some (PyData.int 2147483549)) (consO (some (PyData.int 2147483543)) (consO (some (PyData.int 2147483497)) (consO (some (PyData.int 2147483489)) (some []))))))))).map PyData.list).bind fun primes3 => ((b2 dAdd (some primes3) ((consO (some (PyData.int 2147483477)) (consO (some (PyData.int 2147483423)) (consO (some (PyData.int 2147483399)) (consO (some (PyData.int 2147483353)) (consO (some (PyData.int 2147483323)) (some [])))))).map PyData.list)).bind fun primes4 => ((b2 dAdd (b2 dAdd (b2 dMul (b2 dMod (C1 dInt (some cell1)) (some (PyData.int 1000000007))) (b2 dAdd (b2 dMul (some (PyData.int 2)) (some at2)) (some (PyData.int 69069)))) (b2 dMul (some at2) (some (PyData.int 40503)))) (some (PyData.int 977))).bind fun one5 => ((b2 dMod (C1 dInt (b2 dPow (some one5) (some (PyData.int 3)))) (b2 dIx (some primes4) (b2 dMod (C1 dInt (some at2)) (some (PyData.int 13))))).bind fun one6 => ((b2 dMod (C1 dInt (b2 dPow (b2 dAdd (b2 dAdd (b2 dMul (some one6) (b2 dAdd (some at2) (some (PyData.int 3)))) (b2 dMod (C1 dInt (some cell1)) (some (PyData.int 65537)))) (some (PyData.int 5))) (some (PyData.int 5)))) (b2 dIx (some primes4) (b2 dMod (C1 dInt (b2 dAdd (some at2) (some (PyData.int 5)))) (some (PyData.int 13))))).bind fun two7 => ((b2 dMod (C1 dInt (b2 dPow (b2 dAdd (b2 dAdd (some two7) (b2 dMod (C1 dInt (some one6)) (some (PyData.int 1009)))) (some at2)) (some (PyData.int 3)))) (b2 dIx (some primes4) (b2 dMod (C1 dInt (b2 dAdd (some at2) (some (PyData.int 7)))) (some (PyData.int 13))))).bind fun three8 => (b2 dAdd (b2 dMul (b2 dAdd (b2 dMul (some one6) (some (PyData.int 2147483647))) (some two7)) (some (PyData.int 2147483647))) (some three8)))))))))
def b__law_take (cs : List Int) (amount1 : D) (q : D → Nat → Prop) : Nat → Prop :=
  (joinK (fun (s2 : Unit) => ((op2 dMod (appM (consM (penAt cs 2) nilM) (F1 dInt)) (lift (some amount1))) fun found10 => ((op2 dFdiv (penAt cs 2) (lift (some amount1))) fun d => penSet 2 d ((lift (some found10)) q)))) fun kk3 => ifK (bindM (op2 dLt (penAt cs 2) (lift (some amount1))) asB) ((penAt cs 1) fun at4 => ((lift (some (PyData.int 0))) fun cell5 => (joinK (fun (s6 : D) => ((lift (b2 dAdd (some at4) (some (PyData.int 1)))) fun d => penSet 1 d ((lift (C2 m__law_spread (some s6) (some at4))) fun d => penSet 2 d (kk3 ())))) fun kk7 => ifK (bindM (op2 dLt (lift (some at4)) (appM (consM (penAt cs 0) nilM) (F1 dLen))) asB) ((op2 dIx (penAt cs 0) (lift (some at4))) fun cell8 => (kk7 cell8)) (ifK (bindM (op2 dGt (appM (consM (penAt cs 0) nilM) (F1 dLen)) (lift (some (PyData.int 0)))) asB) ((op2 dMod (appM (consM (op2 dIx (penAt cs 0) (op2 dMod (lift (C1 dInt (b2 dAdd (b2 dMul (some at4) (some (PyData.int 5))) (some (PyData.int 3))))) (appM (consM (penAt cs 0) nilM) (F1 dLen)))) nilM) (F1 dInt)) (lift (b2 dAdd (b2 dPow (some (PyData.int 10)) (some (PyData.int 17))) (some at4)))) fun cell9 => (kk7 cell9)) (kk7 cell5))))) (kk3 ()))
theorem atI_ok {α : Type} {xs : List α} {i : Int} (h0 : 0 ≤ i) (h : i < xs.length) : atI xs i = xs[i.toNat]? := by
  unfold atI ixN
  rw [if_pos h0, if_pos h]
  rfl
theorem dMul_ok {i j : Int} (hi : i.natAbs < 2 ^ 256) (hj : j.natAbs < 2 ^ 256) : dMul (.int i) (.int j) = some (.int (i * j)) := by
  have key : ∀ n : Nat, n < 2 ^ 256 → n.log2 ≤ 256 := fun n hn => by
    by_cases z : n = 0
    · subst z; decide
    · exact Nat.le_of_lt ((Nat.log2_lt z).mpr hn)
  have h1 := key _ hi
  have h2 := key _ hj
  show (if i.natAbs.log2 + j.natAbs.log2 < 1000000 then some (PyData.int (i * j)) else none) = _
  rw [if_pos (by omega)]
theorem dMod_ok {i j : Int} (h : 0 < j) : dMod (.int i) (.int j) = some (.int (i % j)) := if_pos h
theorem dFdiv_ok {i j : Int} (h : 0 < j) (h2 : j.natAbs < 2 ^ 256) : dFdiv (.int i) (.int j) = some (.int (i / j)) := by
  refine if_pos ⟨h, ?_⟩
  have : j.natAbs.log2 < 256 := (Nat.log2_lt (by omega)).mpr h2
  omega
theorem dPow_ok {i : Int} {n : Nat} (h : i.natAbs < 2 ^ 64) (hn : n ≤ 1000000) : dPow (.int i) (.int n) = some (.int (i ^ n)) := by
  refine (if_pos ⟨by omega, by omega, h⟩).trans ?_
  rw [Int.toNat_natCast]
theorem dIx_list {xs : List D} {i : Int} (h0 : 0 ≤ i) (h : i < xs.length) : dIx (.list xs) (.int i) = xs[i.toNat]? := atI_ok h0 h
theorem dIx_tup {xs : List D} {i : Int} (h0 : 0 ≤ i) (h : i < xs.length) : dIx (.tuple xs) (.int i) = xs[i.toNat]? := atI_ok h0 h
theorem pull {α β : Type} {o : Option α} {f : α → Option β} {a : α} (h : o = some a) : o.bind f = f a := by rw [h]; rfl
theorem ifO_ok {α : Type} {oc : Option Bool} {oa ob : Option α} {t : Bool} (h : oc = some t) : ifO oc oa ob = if t = true then oa else ob := by rw [h]; rfl
theorem b2_some (f : D → D → Option D) (a b : D) : b2 f (some a) (some b) = f a b := rfl
theorem c1_some {β : Type} (f : D → Option β) (a : D) : C1 f (some a) = f a := rfl
theorem dMod_i {i j : Int} (h : 0 < j) : b2 dMod (C1 dInt (some (.int i))) (some (.int j)) = some (.int (i % j)) := dMod_ok (i := i) h
theorem asI_int (i : Int) : (some (PyData.int i)).bind asI = some (some i) := rfl
theorem slO_some (d : D) (lo hi : Option Int) : slO (some d) (some lo) (some hi) = dCut d lo hi := rfl
theorem cutD_lo (xs : List D) (n : Nat) : cutD xs none (some (n : Int)) = xs.take n := by
  unfold cutD
  rw [HT.sIx_none, HT.sIx_nat]
  show List.take (min n xs.length - 0) (List.drop 0 xs) = _
  rw [List.drop_zero, Nat.sub_zero]
  by_cases h : n ≤ xs.length
  · rw [Nat.min_eq_left h]
  · rw [Nat.min_eq_right (by omega), List.take_of_length_le (Nat.le_refl _), List.take_of_length_le (by omega)]
theorem setL_int {xs : List Int} {i : Nat} {z : Int} : (xs.map PyData.int).set i (.int z) = (xs.set i z).map PyData.int := by
  rw [List.map_set]
theorem ixN_nat' {n j : Nat} (hj : j < n) : ixN n (j : Int) = some j := by
  unfold ixN
  rw [if_pos (by omega), if_pos (by omega), Int.toNat_natCast]
theorem open_step {n : Nat} {z : Int} {xs : List Int} {α : Type} {k : List D → Option α} (h : xs.length = 12) :
    ∃ ys : List Int, ys.length = 12 ∧ (setIO (xs.map PyData.int) (immO (b2 dAdd (b2 dIx (some (.list (xs.map PyData.int))) (b2 dMod (C1 dInt (some (.int (n : Nat)))) (some (.int 12)))) (some (.int z)))) (b2 dMod (C1 dInt (some (.int (n : Nat)))) (some (.int 12))) fun c => k c) = k (ys.map PyData.int) := by
  have hm : b2 dMod (C1 dInt (some (.int (n : Nat)))) (some (.int 12)) = some (.int (((n % 12 : Nat)) : Int)) := by
    rw [dMod_i (by decide)]
    congr 2
  have hl : (xs.map PyData.int).length = 12 := by simp [h]
  have hlt : n % 12 < xs.length := by omega
  refine ⟨xs.set (n % 12) (xs[n % 12] + z), by simp [h], ?_⟩
  rw [hm]
  have h1 : b2 dIx (some (.list (xs.map PyData.int))) (some (.int (((n % 12 : Nat)) : Int))) = some (.int xs[n % 12]) := by
    rw [b2_some, dIx_list (by omega) (by omega), Int.toNat_natCast]
    simp [hlt]
  rw [h1]
  have h2 : immO (b2 dAdd (some (.int xs[n % 12])) (some (.int z))) = some (.int (xs[n % 12] + z)) := rfl
  rw [h2]
  unfold setIO
  rw [Option.bind_some, Option.bind_some]
  show (ixN (xs.map PyData.int).length ((n % 12 : Nat) : Int)).bind _ = _
  rw [ixN_nat' (by omega), Option.bind_some, setL_int]
theorem open_loop {α : Type} {k : List D → Option α} : ∀ (zs : List Int) (n : Nat) (xs : List Int), xs.length = 12 → ∃ ys : List Int, ys.length = 12 ∧ forO (S := List D) (fun s2 d kk3 => un2 d fun k6 cell7 => (setIO s2 (immO (b2 dAdd (b2 dIx (some (.list s2)) (b2 dMod (C1 dInt (some k6)) (some (.int 12)))) (some cell7))) (b2 dMod (C1 dInt (some k6)) (some (.int 12))) fun cells8 => (kk3 cells8))) (enumD n (zs.map PyData.int)) (xs.map PyData.int) k = k (ys.map PyData.int)
  | [], n, xs, h => ⟨xs, h, rfl⟩
  | z :: zs, n, xs, h => by
    obtain ⟨ys, h1, e1⟩ := open_step (n := n) (z := z) (k := fun s' => forO (S := List D) (fun s2 d kk3 => un2 d fun k6 cell7 => (setIO s2 (immO (b2 dAdd (b2 dIx (some (.list s2)) (b2 dMod (C1 dInt (some k6)) (some (.int 12)))) (some cell7))) (b2 dMod (C1 dInt (some k6)) (some (.int 12))) fun cells8 => (kk3 cells8))) (enumD (n + 1) (zs.map PyData.int)) s' k) h
    obtain ⟨ws, h2, e2⟩ := open_loop zs (n + 1) ys h1
    exact ⟨ws, h2, e1.trans e2⟩
theorem law_open_ok (ns : List Int) (_ : ns.length ≤ 63) : ∃ cs : List Int, m__law_open ns = some [.list (cs.map PyData.int), .int 0, .int 0] := by
  obtain ⟨ms, _, e2⟩ := cut_map ns (some 12) (some 63)
  have hA : slO (some (.list (ns.map PyData.int))) (some none) ((some (PyData.int 12)).bind asI) = some (.list ((ns.take 12).map PyData.int)) := by
    rw [asI_int, slO_some]
    show some (PyData.list (cutD _ none (some ((12 : Nat) : Int)))) = _
    rw [cutD_lo, List.map_take]
  have hB : slO (some (.list (ns.map PyData.int))) ((some (PyData.int 12)).bind asI) ((some (PyData.int 63)).bind asI) = some (.list (ms.map PyData.int)) := by
    rw [asI_int, asI_int, slO_some]
    show some (PyData.list (cutD _ (some 12) (some 63))) = _
    rw [e2]
  unfold m__law_open
  rw [hA, hB]
  show ∃ cs : List Int, forO (S := List D) _ (enumD 0 (ms.map PyData.int)) ((ns.take 12).map PyData.int) _ = _
  by_cases hn : 12 ≤ ns.length
  · obtain ⟨ys, _, e⟩ := open_loop (k := fun s5 => (consO (some (.list s5)) (consO (some (.int 0)) (consO (some (.int 0)) (some []))))) ms 0 (ns.take 12) (by simp; omega)
    exact ⟨ys, e⟩
  · have : ms = [] := by
      have h1 : ms.length = (cutD (ns.map PyData.int) (some 12) (some 63)).length := by rw [e2]; simp
      have h2 : (cutD (ns.map PyData.int) (some ((12 : Nat) : Int)) (some ((63 : Nat) : Int))).length = 0 := by
        unfold cutD
        rw [HT.sIx_nat, HT.sIx_nat]
        simp; omega
      exact List.length_eq_zero_iff.mp (h1.trans h2)
    subst this
    exact ⟨ns.take 12, rfl⟩

def primesN : List Int := [2147483629, 2147483587, 2147483579, 2147483563, 2147483549, 2147483543, 2147483497, 2147483489, 2147483477, 2147483423, 2147483399, 2147483353, 2147483323]
theorem prime_at (z : Int) : ∃ p : Int, b2 dIx (some (.list (primesN.map PyData.int))) (b2 dMod (C1 dInt (some (.int z))) (some (.int 13))) = some (.int p) ∧ 0 < p ∧ p < 2147483648 := by
  have hm : b2 dMod (C1 dInt (some (.int z))) (some (.int 13)) = some (.int (z % 13)) := dMod_i (by decide)
  rw [hm]
  have h0 : 0 ≤ z % 13 := Int.emod_nonneg _ (by decide)
  have h1 : z % 13 < 13 := Int.emod_lt_of_pos _ (by decide)
  have hlt : (z % 13).toNat < primesN.length := by show _ < 13; omega
  have hb : ∀ p ∈ primesN, 0 < p ∧ p < 2147483648 := by decide
  refine ⟨primesN[(z % 13).toNat], ?_, hb _ (List.getElem_mem hlt)⟩
  rw [b2_some, dIx_list h0 (by show z % 13 < 13; exact h1), List.getElem?_map, List.getElem?_eq_getElem hlt]
  rfl
theorem add_ok (i j : Int) : b2 dAdd (some (.int i)) (some (.int j)) = some (.int (i + j)) := rfl
theorem sub_ok (i j : Int) : b2 dSub (some (.int i)) (some (.int j)) = some (.int (i - j)) := rfl
theorem int_ok (i : Int) : C1 dInt (some (.int i)) = some (.int i) := rfl
theorem mul_ok {i j : Int} (hi : i.natAbs < 2 ^ 256) (hj : j.natAbs < 2 ^ 256) : b2 dMul (some (.int i)) (some (.int j)) = some (.int (i * j)) := dMul_ok hi hj
theorem mod_ok {i j : Int} (h : 0 < j) : b2 dMod (some (.int i)) (some (.int j)) = some (.int (i % j)) := dMod_ok h
theorem pow3_ok {i : Int} (h : i.natAbs < 2 ^ 64) : b2 dPow (some (.int i)) (some (.int 3)) = some (.int (i ^ 3)) := dPow_ok (n := 3) h (by decide)
theorem pow5_ok {i : Int} (h : i.natAbs < 2 ^ 64) : b2 dPow (some (.int i)) (some (.int 5)) = some (.int (i ^ 5)) := dPow_ok (n := 5) h (by decide)
theorem mul_lt {x y a b : Int} (h1 : 0 ≤ x) (h2 : x ≤ a) (h3 : 0 ≤ y) (h4 : y ≤ b) : 0 ≤ x * y ∧ x * y ≤ a * b := ⟨Int.mul_nonneg h1 h3, Int.mul_le_mul h2 h4 h3 (Int.le_trans h1 h2)⟩
theorem spread_ok (c : Int) (i : Nat) (hi : i < 2147483648) : ∃ r : Nat, C2 m__law_spread (some (.int c)) (some (.int (i : Nat))) = some (.int (r : Nat)) := by
  have hpow : b2 dPow (some (PyData.int 10)) (some (.int 18)) = some (.int (10 ^ 18)) := dPow_ok (i := 10) (n := 18) (by decide) (by decide)
  by_cases hc : (10 : Int) ^ 18 ≤ c
  · refine ⟨c.toNat, ?_⟩
    show m__law_spread (.int c) (.int i) = _
    unfold m__law_spread
    have ht : (b2 dGe (some (.int c)) (some (.int (10 ^ 18)))).bind asB = some true := by
      show some (decide _) = _
      rw [decide_eq_true hc]
    rw [hpow, ifO_ok ht]
    rw [if_pos rfl]
    congr 2
    omega
  · show ∃ r : Nat, m__law_spread (.int c) (.int i) = _
    have i0 : (0 : Int) ≤ (i : Int) := Int.natCast_nonneg i
    have i1 : (i : Int) < 2147483648 := by omega
    generalize (i : Int) = i at i0 i1
    have key : ∃ r : Int, 0 ≤ r ∧ m__law_spread (.int c) (.int i) = some (.int r) := by
      unfold m__law_spread
      have ht : (b2 dGe (some (.int c)) (some (.int (10 ^ 18)))).bind asB = some false := by
        show some (decide _) = _
        rw [decide_eq_false hc]
      rw [hpow, ifO_ok ht]
      rw [if_neg (by decide)]
      have hP : ∃ pr : D, ((consO (some (.int 2147483629)) (consO (some (.int 2147483587)) (consO (some (.int 2147483579)) (consO (some (.int 2147483563)) (consO (some (.int 2147483549)) (consO (some (.int 2147483543)) (consO (some (.int 2147483497)) (consO (some (.int 2147483489)) (some []))))))))).map PyData.list) = some pr ∧ b2 dAdd (some pr) ((consO (some (.int 2147483477)) (consO (some (.int 2147483423)) (consO (some (.int 2147483399)) (consO (some (.int 2147483353)) (consO (some (.int 2147483323)) (some [])))))).map PyData.list) = some (.list (primesN.map PyData.int)) := ⟨_, rfl, (if_pos (show (8 : Nat) + 5 ≤ sizeLine by decide) : (if (8 : Nat) + 5 ≤ sizeLine then some (PyData.list (primesN.map PyData.int)) else none) = _)⟩
      obtain ⟨pr, e1, e2⟩ := hP
      rw [pull e1, pull e2]
      have c0 : 0 ≤ c % 1000000007 := Int.emod_nonneg _ (by decide)
      have c1 : c % 1000000007 < 1000000007 := Int.emod_lt_of_pos _ (by decide)
      have d0 : 0 ≤ c % 65537 := Int.emod_nonneg _ (by decide)
      have d1 : c % 65537 < 65537 := Int.emod_lt_of_pos _ (by decide)
      rw [int_ok, mod_ok (i := c) (j := 1000000007) (by decide)]
      rw [mod_ok (i := c) (j := 65537) (by decide)]
      generalize c % 1000000007 = x at c0 c1
      generalize c % 65537 = y at d0 d1
      obtain ⟨m0, m1⟩ := mul_lt (x := x) (y := 2 * i + 69069) (a := 1000000007) (b := 4295036365) c0 (by omega) (by omega) (by omega)
      rw [mul_ok (i := 2) (j := i) (by decide) (by omega), add_ok, mul_ok (i := x) (j := 2 * i + 69069) (by omega) (by omega), mul_ok (i := i) (j := 40503) (by omega) (by decide), add_ok, add_ok]
      generalize x * (2 * i + 69069) = z at m0 m1
      rw [Option.bind_some]
      obtain ⟨p1, hp1, p1a, p1b⟩ := prime_at i
      obtain ⟨p2, hp2, p2a, p2b⟩ := prime_at (i + 5)
      obtain ⟨p3, hp3, p3a, p3b⟩ := prime_at (i + 7)
      rw [hp1, add_ok i 3, add_ok i 5, hp2, add_ok i 7, hp3, pow3_ok (i := z + i * 40503 + 977) (by omega), int_ok, mod_ok p1a, Option.bind_some]
      have o0 : 0 ≤ (z + i * 40503 + 977) ^ 3 % p1 := Int.emod_nonneg _ (by omega)
      have o1 : (z + i * 40503 + 977) ^ 3 % p1 < 2147483648 := Int.lt_trans (Int.emod_lt_of_pos _ p1a) p1b
      generalize (z + i * 40503 + 977) ^ 3 % p1 = u at o0 o1
      obtain ⟨n0, n1⟩ := mul_lt (x := u) (y := i + 3) (a := 2147483648) (b := 2147483651) o0 (by omega) (by omega) (by omega)
      rw [mul_ok (i := u) (j := i + 3) (by omega) (by omega), add_ok, add_ok]
      generalize u * (i + 3) = v at n0 n1
      rw [pow5_ok (i := v + y + 5) (by omega), int_ok, mod_ok p2a, Option.bind_some]
      have t0 : 0 ≤ (v + y + 5) ^ 5 % p2 := Int.emod_nonneg _ (by omega)
      have t1 : (v + y + 5) ^ 5 % p2 < 2147483648 := Int.lt_trans (Int.emod_lt_of_pos _ p2a) p2b
      generalize (v + y + 5) ^ 5 % p2 = w at t0 t1
      have e0 : 0 ≤ u % 1009 := Int.emod_nonneg _ (by decide)
      have e9 : u % 1009 < 1009 := Int.emod_lt_of_pos _ (by decide)
      rw [int_ok, mod_ok (i := u) (j := 1009) (by decide), add_ok, add_ok]
      generalize u % 1009 = s at e0 e9
      rw [pow3_ok (i := w + s + i) (by omega), int_ok, mod_ok p3a, Option.bind_some]
      have f0 : 0 ≤ (w + s + i) ^ 3 % p3 := Int.emod_nonneg _ (by omega)
      generalize (w + s + i) ^ 3 % p3 = r at f0
      rw [mul_ok (i := u) (j := 2147483647) (by omega) (by decide), add_ok, mul_ok (j := 2147483647) (by omega) (by decide), add_ok]
      exact ⟨_, by omega, rfl⟩
    obtain ⟨r, r0, hr⟩ := key
    exact ⟨r.toNat, by rw [hr, Int.toNat_of_nonneg r0]⟩
theorem ifk_t {A B : Nat → Prop} {m : Nat} {b : Bool} (h : b = true) (hA : A m) : (fun (t : Bool) m => if t = true then A m else B m) b m := by
  subst h; exact hA
theorem ifk_f {A B : Nat → Prop} {m : Nat} {b : Bool} (h : b = false) (hB : B m) : (fun (t : Bool) m => if t = true then A m else B m) b m := by
  subst h; exact hB
@[irreducible] def m__law_take (n : D) : M D := fun q m => ∃ k : Nat, n = .int k ∧ 0 < k ∧ k < 2 ^ 256 ∧ m < 1000000000 ∧ ∀ v : Nat, v < k → q (.int v) (m + 1)
theorem pen_at {cs : List Int} {j i v : Nat} {q : D → Nat → Prop} {d : D} (h : (penD cs i v)[j]? = some d) (hq : q d (enc i v)) : penAt cs j q (enc i v) := ⟨i, v, d, rfl, h, hq⟩
theorem pen_set1 {i v n : Nat} {z : Int} {k : Nat → Prop} (h : z = (n : Int)) (hk : k (enc n v)) : penSet 1 (.int z) k (enc i v) := ⟨i, v, n, rfl, by rw [h], .inl ⟨rfl, hk⟩⟩
theorem pen_set2 {i v n : Nat} {z : Int} {k : Nat → Prop} (h : z = (n : Int)) (hk : k (enc i n)) : penSet 2 (.int z) k (enc i v) := ⟨i, v, n, rfl, by rw [h], .inr ⟨rfl, hk⟩⟩
theorem take_law (cs : List Int) (d : D) (q : D → Nat → Prop) (m i v : Nat) (h : G1 m__law_take [d] q m) (hi : i ≤ m) : b__law_take cs d (fun a n => ∃ i' v' m', n = enc i' v' ∧ i' ≤ m' ∧ q a m') (enc i v) := by
  have h : m__law_take d q m := h
  unfold m__law_take at h
  obtain ⟨k, rfl, k0, k1, hm, hq⟩ := h
  -- the end: from any state of the pen whose i is at most m + 1
  have fin : ∀ i' v' : Nat, i' ≤ m + 1 → ((op2 dMod (appM (consM (penAt cs 2) nilM) (F1 dInt)) (lift (some (.int (k : Nat))))) fun found10 => ((op2 dFdiv (penAt cs 2) (lift (some (.int (k : Nat))))) fun d => penSet 2 d ((lift (some found10)) (fun a n => ∃ i' v' m', n = enc i' v' ∧ i' ≤ m' ∧ q a m')))) (enc i' v') := fun i' v' hi' => by
    refine pen_at (d := .int v') rfl ?_
    refine ⟨_, rfl, _, rfl, _, dMod_ok (by omega), ?_⟩
    refine pen_at (d := .int v') rfl ?_
    refine ⟨_, rfl, _, dFdiv_ok (by omega) (by omega), ?_⟩
    refine pen_set2 (n := v' / k) (by push_cast; rfl) ?_
    refine ⟨_, rfl, i', v' / k, m + 1, rfl, hi', ?_⟩
    have := hq (v' % k) (Nat.mod_lt _ k0)
    have e : ((v' : Int) % (k : Int)) = ((v' % k : Nat) : Int) := by push_cast; rfl
    rw [e]
    exact this
  show ifK _ _ _ (enc i v)
  refine pen_at (d := .int v) rfl ?_
  refine ⟨_, rfl, _, rfl, _, rfl, ?_⟩
  by_cases hv : (v : Int) < k
  · refine ifk_t (decide_eq_true hv) ?_
    refine pen_at (d := .int i) rfl ?_
    refine ⟨_, rfl, ?_⟩
    -- with a cell, whichever it is
    have key : ∀ c : Int, ((lift (b2 dAdd (some (.int (i : Nat))) (some (.int 1)))) fun d => penSet 1 d ((lift (C2 m__law_spread (some (.int c)) (some (.int (i : Nat))))) fun d => penSet 2 d (((op2 dMod (appM (consM (penAt cs 2) nilM) (F1 dInt)) (lift (some (.int (k : Nat))))) fun found10 => ((op2 dFdiv (penAt cs 2) (lift (some (.int (k : Nat))))) fun d => penSet 2 d ((lift (some found10)) (fun a n => ∃ i' v' m', n = enc i' v' ∧ i' ≤ m' ∧ q a m'))))))) (enc i v) := fun c => by
      obtain ⟨r, hr⟩ := spread_ok c i (by omega)
      refine ⟨_, rfl, ?_⟩
      refine pen_set1 (n := i + 1) (by push_cast; rfl) ?_
      refine ⟨_, hr, ?_⟩
      refine pen_set2 (n := r) rfl ?_
      exact fin (i + 1) r (by omega)
    show ifK _ _ _ (enc i v)
    refine ⟨_, rfl, ?_⟩
    refine pen_at (d := .list (cs.map PyData.int)) rfl ?_
    refine ⟨_, rfl, _, rfl, _, rfl, ?_⟩
    by_cases hlt : (i : Int) < cs.length
    · refine ifk_t (decide_eq_true (by simpa using hlt)) ?_
      refine pen_at (d := .list (cs.map PyData.int)) rfl ?_
      refine ⟨_, rfl, .int (cs[i]'(by omega)), ?_, key _⟩
      rw [dIx_list (by omega) (by simpa using hlt)]
      simp [show i < cs.length by omega]
    · refine ifk_f (decide_eq_false (by simpa using hlt)) ?_
      refine pen_at (d := .list (cs.map PyData.int)) rfl ?_
      refine ⟨_, rfl, _, rfl, _, rfl, _, rfl, ?_⟩
      by_cases hz : 0 < cs.length
      · refine ifk_t (decide_eq_true (by simpa using hz)) ?_
        refine pen_at (d := .list (cs.map PyData.int)) rfl ?_
        have g1 : C1 dInt (b2 dAdd (b2 dMul (some (.int (i : Nat))) (some (.int 5))) (some (.int 3))) = some (.int ((i : Int) * 5 + 3)) := by
          rw [show b2 dMul (some (.int (i : Nat))) (some (.int 5)) = some (.int ((i : Int) * 5)) from dMul_ok (by omega) (by decide)]
          rfl
        refine ⟨_, g1, ?_⟩
        refine pen_at (d := .list (cs.map PyData.int)) rfl ?_
        refine ⟨_, rfl, _, dMod_ok (by simpa using hz), ?_⟩
        have hl : (cs.map PyData.int).length = cs.length := by simp
        have m0 : 0 ≤ ((i : Int) * 5 + 3) % ((cs.map PyData.int).length : Int) := Int.emod_nonneg _ (by omega)
        have m1 : ((i : Int) * 5 + 3) % ((cs.map PyData.int).length : Int) < (cs.map PyData.int).length := Int.emod_lt_of_pos _ (by omega)
        have hg : ∃ c : Int, dIx (.list (cs.map PyData.int)) (.int (((i : Int) * 5 + 3) % ((cs.map PyData.int).length : Int))) = some (.int c) := by
          rw [dIx_list m0 m1]
          refine ⟨cs[(((i : Int) * 5 + 3) % ((cs.map PyData.int).length : Int)).toNat]'(by omega), ?_⟩
          simp [show (((i : Int) * 5 + 3) % ((cs.map PyData.int).length : Int)).toNat < cs.length by omega]
        obtain ⟨c, hc⟩ := hg
        have g2 : b2 dAdd (b2 dPow (some (.int 10)) (some (.int 17))) (some (.int (i : Nat))) = some (.int ((10 : Int) ^ 17 + i)) := by
          rw [show b2 dPow (some (.int 10)) (some (.int 17)) = some (.int ((10 : Int) ^ 17)) from dPow_ok (i := 10) (n := 17) (by decide) (by decide)]
          rfl
        refine ⟨_, hc, _, rfl, _, g2, _, dMod_ok (by omega), key _⟩
      · refine ifk_f (decide_eq_false (by simpa using hz)) ?_
        exact key _
  · refine ifk_f (decide_eq_false hv) ?_
    exact fin i v (by omega)
end Dl

set_option Elab.async false
set_option linter.all false
set_option autoImplicit false
set_option maxRecDepth 100000
set_option maxHeartbeats 1000000
namespace Dl
open PySem L2 PySem.Spec PyProof.Rows

def rgOk (a b : Int) : Bool := decide (-(2 ^ 62) ≤ a ∧ a < 2 ^ 62 ∧ -(2 ^ 62) ≤ b ∧ b < 2 ^ 62 ∧ (b - a).toNat ≤ 2 ^ 24)
theorem rgOk_is {a b : Int} (h : rgOk a b = true) : RgOk a b := by
  unfold rgOk at h
  show -(2 ^ 62) ≤ a ∧ a < 2 ^ 62 ∧ -(2 ^ 62) ≤ b ∧ b < 2 ^ 62 ∧ (b - a).toNat ≤ 2 ^ 24
  exact of_decide_eq_true h
def dRg1 : D → Option (List D)
  | .int n => if rgOk 0 n = true then some (rangeD 0 n) else none
  | _ => none
theorem rg_rp {G : Hp} (a b : Int) : RpL G (rgV a b) (rangeD a b) := by
  have e1 : rgV a b = ((List.range (b - a).toNat).map fun (i : Nat) => a + (i : Int)).map V.int := by unfold rgV; rw [List.map_map]; rfl
  have e2 : rangeD a b = ((List.range (b - a).toNat).map fun (i : Nat) => a + (i : Int)).map PyData.int := by unfold rangeD; rw [List.map_map]; rfl
  rw [e1, e2]
  exact RpL.ofInts
section
variable {X : Cx} {R : Res} {ρ : List Cell} {a b : Expr} {pos p p2 pos2 : Pos} {k : Nat}
theorem jl_rg1 {T : M D} (B : Bx X k) (hm : X.mg "list" = none) (hr : X.mg "range" = none) (ha : JM X R ρ a T) (hg : Gl X "list" := by rfl) (hgr : Gl X "range" := by rfl) (na : starEach [a] X.env = (false, eval a X.env) :: starEach [] X.env := by rfl)
    (nb : starEach [.Call (.Name "range" p2) [a] [] pos2] X.env = (false, eval (.Call (.Name "range" p2) [a] [] pos2) X.env) :: starEach [] X.env := by rfl) : JL X R ρ (.Call (.Name "list" p) [.Call (.Name "range" p2) [a] [] pos2] [] pos) (bindM T dRg1) := by
  refine PE.imp (pe_listRg B.hc hg hm (prg_1 hgr hr ha na) nb) fun σ H Q ⟨G, m, q, S, t, k⟩ => ⟨G, m, _, S, t, fun v d G1 H1 m1 S1 g1 r1 q1 => ?_⟩
  obtain ⟨ds, hd, q1⟩ := q1
  cases r1 with
  | int n =>
    simp only [dRg1, Option.ite_none_right_eq_some, Option.some.injEq] at hd
    obtain ⟨hz, rfl⟩ := hd
    refine ⟨n, rfl, rgOk_is hz, fun l hl => ?_⟩
    obtain ⟨g2, s2⟩ := grow_own S1.gh hl (.lst (rgV 0 n))
    obtain ⟨S2, g2'⟩ := S1.growS g2 s2
    exact k l _ _ G1 _ m1 S2 (g1.trans S1.vh g2') (free_of g1 S1.vh hl) (S1.gh.free hl) upd_same (rg_rp 0 n) q1
  | _ => cases hd
theorem jle_rg1 {o : Option D} (B : Bx X k) (hm : X.mg "list" = none) (hr : X.mg "range" = none) (ha : JE X R ρ a o) (hg : Gl X "list" := by rfl) (hgr : Gl X "range" := by rfl) (na : starEach [a] X.env = (false, eval a X.env) :: starEach [] X.env := by rfl)
    (nb : starEach [.Call (.Name "range" p2) [a] [] pos2] X.env = (false, eval (.Call (.Name "range" p2) [a] [] pos2) X.env) :: starEach [] X.env := by rfl) : JLE X R ρ (.Call (.Name "list" p) [.Call (.Name "range" p2) [a] [] pos2] [] pos) (C1 dRg1 o) := (jl_rg1 B hm hr ha hg hgr na nb).imp fun _ _ => lift1
end
end Dl

set_option Elab.async false
set_option linter.all false
set_option autoImplicit false
set_option maxRecDepth 100000
set_option maxHeartbeats 1000000
namespace Dl
open PySem L2 PySem.Spec PyProof.Rows
open PySem.W (AlikeAll maxD minD maxD_ints minD_ints max_list_data max_tuple_data min_list_data min_tuple_data alike)

theorem alike_ints (n : Int) (ns : List Int) : AlikeAll (.int n :: ns.map PyData.int) := by
  have key : ∀ x ∈ (PyData.int n :: ns.map PyData.int), ∃ i, x = .int i := by
    intro x hx
    rcases List.mem_cons.mp hx with rfl | hx
    · exact ⟨_, rfl⟩
    · obtain ⟨i, _, rfl⟩ := List.mem_map.mp hx
      exact ⟨i, rfl⟩
  refine ⟨fun x hx y hy => ?_, fun x hx => ?_⟩
  · obtain ⟨i, rfl⟩ := key x hx
    obtain ⟨j, rfl⟩ := key y hy
    rfl
  · obtain ⟨i, rfl⟩ := key x hx
    exact fun z => nomatch z
theorem reads_ints {h : Heap} : ∀ {ns : List Int} {us : List Value}, Vals (ns.map V.int) us → ∃ as, ReadsAll h us (ns.map PyData.int) as
  | [], _, .nil => ⟨_, .nil⟩
  | n :: ns, _, .cons r rs => by
    obtain ⟨as, q⟩ := reads_ints rs
    obtain ⟨t, rfl⟩ := r
    exact ⟨_, .cons (.int _ _) q⟩
def rBest (K : PySem.W.Frag) (f : Int → Int → Int) : List V → Hp → VK → Prop := fun vs H Q => ∃ (a : Addr) (n : Int) (ns : List Int), vs = [V.ref a] ∧ (SqL K H a ((n :: ns).map V.int) ∨ SqT K H a ((n :: ns).map V.int)) ∧ Q (.int (ns.foldl f n)) H
theorem depth_all_ints (n : Int) (ns : List Int) : PyData.depthAll (.int n :: ns.map PyData.int) = 0 := PySem.W.depth_ints (n :: ns)
theorem cr_maxA {X : Cx} (hc : X.calm = true) (hu : X.A.units + 64 < cLine) : CallR X (.builtin "max") (rBest X.K max) := by
  intro pins s σ H vs us Q I r h
  obtain ⟨a, n, ns, rfl, hs, q⟩ := h
  rw [Vals.ref1 r]
  have fin : ∀ (v : Value) (h' : Heap) (tk : Nat) (bs : List Addr), Reads h' v (maxD (.int n) (ns.map PyData.int)) bs → (∀ b o, s.heap.get? b = some o → h'.get? b = some o) → EP X pins σ Q v { s with heap := h', toks := tk } := fun v h' tk bs rd hk => by
    rw [maxD_ints] at rd
    cases rd
    exact ⟨.int _, H, I.kept hk, ⟨_, rfl⟩, q⟩
  rcases hs with hs | hs
  · obtain ⟨its, rv, hl, _⟩ := I.list hs
    obtain ⟨as, rd⟩ := reads_ints (h := s.heap) rv
    exact max_list_data (I.ok.hd hc) hl.isList (vs := its.toArray) (x := .int n) (xs := ns.map PyData.int) rd (alike_ints n ns) (by rw [depth_all_ints]; omega) fun i v h' tk bs _ rd hk => fin v h' tk bs rd hk
  · obtain ⟨its, rv, hl, _⟩ := I.tuple hs
    obtain ⟨as, rd⟩ := reads_ints (h := s.heap) rv
    exact max_tuple_data (I.ok.hd hc) (show s.heap.IsTuple a its.toArray from hl) (x := .int n) (xs := ns.map PyData.int) rd (alike_ints n ns) (by rw [depth_all_ints]; omega) fun i v h' tk bs _ rd hk => fin v h' tk bs rd hk
def dBest (f : Int → Int → Int) (d : D) : Option D := (dItems d).bind fun xs => match intsOf xs with
  | some (n :: ns) => some (.int (ns.foldl f n))
  | _ => none
theorem cd_best {K : PySem.W.Frag} {f : Int → Int → Int} : CallD (rBest K f) (F1 (dBest f)) := by
  intro G H vs ds z Q gh r hF k
  cases r with
  | nil => cases hF
  | cons a b =>
    cases b with
    | cons _ _ => cases hF
    | nil =>
      have hF : dBest f _ = some z := hF
      have key : ∀ {ds : List D} {vs : List V}, RpL G vs ds → (match intsOf ds with | some (n :: ns) => some (PyData.int (ns.foldl f n)) | _ => none) = some z → ∃ n ns, vs = ((n :: ns).map V.int) ∧ z = .int (ns.foldl f n) := fun {ds vs} r h => by
        split at h
        · rename_i n ns e
          cases h
          have e' := intsOf_eq e
          subst e'
          exact ⟨n, ns, RpL.ints (ns := n :: ns) r, rfl⟩
        · cases h
      cases a with
      | @lst p vs ds hp r =>
        obtain ⟨n, ns, e, rfl⟩ := key r hF
        subst e
        exact ⟨p, n, ns, rfl, .inl (SqL.of (gh _ _ hp)), k _ G H (Grow.refl _ _ _) gh (.int _)⟩
      | @tup p vs ds hp r =>
        obtain ⟨n, ns, e, rfl⟩ := key r hF
        subst e
        exact ⟨p, n, ns, rfl, .inr (hp.sqm gh), k _ G H (Grow.refl _ _ _) gh (.int _)⟩
      | _ => cases hF

end Dl

set_option Elab.async false
set_option linter.all false
set_option autoImplicit false
set_option maxRecDepth 100000
set_option maxHeartbeats 1000000
namespace Dl
open PySem L2

theorem rep_rp {G : Hp} {vs : List V} {ds : List D} (r : RpL G vs ds) : ∀ n : Nat, RpL G (List.replicate n vs).flatten (List.replicate n ds).flatten
  | 0 => .nil
  | n + 1 => by
    rw [List.replicate_succ, List.replicate_succ, List.flatten_cons, List.flatten_cons]
    exact r.append (rep_rp r n)
section
open PySem.Spec PyProof.Rows
end
section
variable {α : Type} {X : Cx} {R : Res} {rk : RK α} {ρ : List Cell} {rest : List Stmt} {κ : Kt} {q : α → Nat → Prop} {e : Expr} {pos p1 p2 p3 p4 p5 p6 : Pos} {x y : Str} {ds es : List D}
def popK (T : M D) (ds es : List D) (k : List D → List D → Nat → Prop) : Nat → Prop := T fun z m => ∃ n j d, z = .int n ∧ -(2 ^ 63) ≤ n ∧ n < 2 ^ 63 ∧ ixN es.length n = some j ∧ es[j]? = some d ∧ ds.length < sizeLine ∧ k (ds ++ [d]) (es.eraseIdx j) m
theorem jk_appPop {T : M D} (i j : Nat) {k : List D → List D → Nat → Prop} (he : JM X R ρ e T) (hr : ∀ ds es, JK X R rk ((ρ.set j (.own es)).set i (.own ds)) rest κ q (k ds es)) (hij : i ≠ j := by decide) (hρ : ρ[i]? = some (.own ds) := by rfl) (hρ2 : ρ[j]? = some (.own es) := by rfl) (hN : X.N[i]? = some x := by rfl) (hN2 : X.N[j]? = some y := by rfl)
    (hv : Vis X.env.scope x := by first | exact Or.inl rfl | exact Or.inr (Or.inl rfl) | exact Or.inr (Or.inr rfl)) (hd : (x == ("__debug__" : Str)) = false := by decide) (hcd : (x == ("__classdict__" : Str)) = false := by decide)
    (hv2 : Vis X.env.scope y := by first | exact Or.inl rfl | exact Or.inr (Or.inl rfl) | exact Or.inr (Or.inr rfl)) (hd2 : (y == ("__debug__" : Str)) = false := by decide) (hcd2 : (y == ("__classdict__" : Str)) = false := by decide)
    (hs : swapsWith (.Call (.Attribute (.Name x p1) "append" p2) [.Call (.Attribute (.Name y p4) "pop" p5) [e] [] p6] [] p3) none pos.line X.env = pure false := by rfl) (hbase : attributeBase (.Name x p1) "append" X.env (eval (.Name x p1) X.env) = eval (.Name x p1) X.env := by rfl)
    (hfew : ((backTo p3 (starEach (.Call (.Attribute (.Name y p4) "pop" p5) [e] [] p6 :: []) X.env)).all (fun x => !x.1) && (backToKw p3 (keywordEach [] X.env)).all (fun x => x.1.isSome) && decide ((.Call (.Attribute (.Name y p4) "pop" p5) [e] [] p6 :: ([] : List Expr)).length + ([] : List Keyword).length + (if ([] : List Keyword).isEmpty then 0 else 1) < 30)) = true := by rfl)
    (hline : (p2.endLine == p3.line) = true := by rfl) (hst : starEach (.Call (.Attribute (.Name y p4) "pop" p5) [e] [] p6 :: []) X.env = (false, eval (.Call (.Attribute (.Name y p4) "pop" p5) [e] [] p6) X.env) :: starEach [] X.env := by rfl) (hpl : (backTo p3 (starEach [] X.env)).any (·.1) = false := by rfl)
    (hbase2 : attributeBase (.Name y p4) "pop" X.env (eval (.Name y p4) X.env) = eval (.Name y p4) X.env := by rfl)
    (hfew2 : ((backTo p6 (starEach (e :: []) X.env)).all (fun x => !x.1) && (backToKw p6 (keywordEach [] X.env)).all (fun x => x.1.isSome) && decide ((e :: ([] : List Expr)).length + ([] : List Keyword).length + (if ([] : List Keyword).isEmpty then 0 else 1) < 30)) = true := by rfl)
    (hline2 : (p5.endLine == p6.line) = true := by rfl) (hst2 : starEach (e :: []) X.env = (false, eval e X.env) :: starEach [] X.env := by rfl) (hpl2 : (backTo p6 (starEach [] X.env)).any (·.1) = false := by rfl) :
    JK X R rk ρ (.Expr (.Call (.Attribute (.Name x p1) "append" p2) [.Call (.Attribute (.Name y p4) "pop" p5) [e] [] p6] [] p3) pos :: rest) κ q (popK T ds es k) :=
  PSs.imp (pss_cons (ps_expr (pe_bm PySem.F.plainAttrs_list PySem.F.slot_list_append PySem.F.type_list_append mt_append (pe_var (i := i) hN hv hd hcd) (pa_cons (pe_bm PySem.F.plainAttrs_list PySem.F.slot_list_pop PySem.F.type_list_pop mt_popAt (pe_var (i := j) hN2 hv2 hd2 hcd2) (pa_cons he pa_nil hst2) hbase2 hfew2 hline2 hst2 hpl2) pa_nil hst) hbase hfew hline hst hpl) hs) (pss_any fun z : List D × List D => hr z.1 z.2)) fun Dn σ H ⟨Gb, G, m, S, g, t, ls⟩ => by
    obtain ⟨l, vs, e1, gl, nv, en, hl, rv⟩ := S.ownT hρ
    obtain ⟨l2, ws, e2, gl2, nv2, en2, hl2, rw2⟩ := S.ownT hρ2
    refine ⟨.ref l, e1, .inl ⟨rfl, _, .inl (.inl hl)⟩, .ref l2, e2, .inl ⟨rfl, _, .inl (.inl hl2)⟩, G, m, _, S, t, fun v d G1 H1 m1 S1 g1 r1 q1 => ?_⟩
    obtain ⟨n, jj, d, rfl, n1, n2, hj, hdj, hz, q1⟩ := q1
    cases r1
    have h2 := g1.hh l2 _ nv2 hl2
    have rw3 := rw2.mono g1.gg
    have h1 := g1.hh l _ nv hl
    have rv1 := rv.mono g1.gg
    obtain ⟨u, hu, ru⟩ := rw3.get hdj
    have ne : l ≠ l2 := fun z => hij (S.apart i j _ _ l hρ hρ2 e1 (by rw [e2, z]))
    have hj2 : ixN ws.length n = some jj := by rw [rw2.length]; exact hj
    obtain ⟨S2, gg2⟩ := S1.write (vs := ws.eraseIdx jj) hρ2 e2 (rw3.eraseIdx jj)
    have hρ' : (ρ.set j (.own (es.eraseIdx jj)))[i]? = some (.own ds) := by rw [List.getElem?_set_ne (Ne.symm hij)]; exact hρ
    obtain ⟨S3, gg3⟩ := S2.write (vs := vs ++ [u]) hρ' e1 (rv1.append (.cons ru .nil))
    refine ⟨l2, ws, n, jj, u, rfl, rfl, h2, n1, n2, (ixN_seq hj2).1, hu, l, vs, u, rfl, rfl, by rw [upd_ne ne]; exact h1, by rw [rv.length]; exact hz, (ds ++ [d], es.eraseIdx jj), Gb, G1, m1, S3, gg3 en (gg2 en2 (S.tr g g1)), q1, ls.sm g1.gg⟩
end
end Dl

set_option Elab.async false
set_option linter.all false
set_option autoImplicit false
set_option maxRecDepth 100000
set_option maxHeartbeats 1000000
namespace Dl
open PySem L2 PySem.Spec PyProof.Rows

mutual
/-- no dict within that has entries -/
def repB : D → Bool
  | .list ds => repBs ds
  | .tuple ds => repBs ds
  | .dict kvs => kvs.isEmpty
  | _ => true
def repBs : List D → Bool
  | [] => true
  | d :: ds => repB d && repBs ds
end
section
variable {X : Cx} {pins : List (Addr × Obj)} {σ : L2.St} {H : Hp} {s : Shared}
theorem dic_raw (I : L2.Inv X pins σ H s) {p : Addr} {L : List Ent} (hp : H p = some (DictNO p L)) (hk : (([] : List (D × D)).map fun x => dkeyOf x.1) = L.map (fun x => some x.1)) : ∃ o es n, s.heap.get? p = some o ∧ o.cls = .type "dict" ∧ o.data = .dict es n ∧ es.toList = [] ∧ (p == sysModules) = false := by
  have D0 := (I.hok p _ hp).1
  obtain ⟨o, es, ep, xs, ho, hx, hd, he, hr⟩ := D0.ob
  have hL : L = [] := by
    cases L with
    | nil => rfl
    | cons _ _ => cases hk
  subst hL
  cases hr
  exact ⟨o, es, ep, ho, hx.1, hd, he, D0.lo⟩
mutual
theorem Rp.rk (I : L2.Inv X pins σ H s) : ∀ {d : D} {v : V} {u : Value}, Rp H v d → RelV v u → d.showable = true → repB d = true → d.shown.length ≤ sizeLine → ∃ bs, ReadAtMost s.heap d.depth bs ∧ ReprK X.prog X.w bs s.heap d.depth u d.shown
  | .none, _, _, h, r, _, _, _ => by cases h; cases r; exact ⟨[], nofun, by simp only [PyData.shown]; exact .of_is .none _ _ _⟩
  | .bool b, _, _, h, r, _, _, _ => by cases h; cases r; exact ⟨[], nofun, by simp only [PyData.shown]; exact .of_is (.bool b) _ _ _⟩
  | .int i, _, _, h, r, hs, _, _ => by
    cases h
    obtain ⟨t, rfl⟩ := r
    exact ⟨[], nofun, by simp only [PyData.shown]; exact .of_is (.int t (by simpa [PyData.showable] using hs)) _ _ _⟩
  | .str z, _, _, h, r, _, _, hz => by
    cases h
    obtain ⟨t, rfl⟩ := r
    exact ⟨[], nofun, by simp only [PyData.shown]; exact .of_is (.str z t (by simpa only [PyData.shown] using hz)) _ _ _⟩
  | .list ds, v, u, h, r, hs, hb, hz => by
    obtain ⟨_, whole⟩ := Rp.reads I h r
    cases h with
    | @lst p vs _ hp q =>
      cases r
      obtain ⟨_, its, n, rv, ho⟩ := I.hok p _ hp
      have hz : (listText (PyData.shownAll ds)).length ≤ sizeLine := by simpa only [PyData.shown] using hz
      obtain ⟨bs, b1, b2⟩ := RpL.rk I q rv (by simpa [PyData.showable] using hs) (by simpa only [repB] using hb) fun t ht => Nat.le_trans (listText_mem_le ht) hz
      have out : p ∉ bs := not_mem_of_deeper whole (by simp only [PyData.depth]; omega) b1
      refine ⟨p :: bs, ReadAtMost.cons whole (by simp only [PyData.depth]; omega) b1, ?_⟩
      simp only [PyData.depth, PyData.shown]
      cases its with
      | nil =>
        cases rv
        cases q
        simp only [PyData.shownAll, listText_nil]
        exact .listEmpty ho rfl rfl
      | cons x l => exact .list ho rfl rfl out (by simpa using b2.length_eq) fun i y e => b2.item i y (by simpa using e)
  | .tuple ds, v, u, h, r, hs, hb, hz => by
    obtain ⟨_, whole⟩ := Rp.reads I h r
    cases h with
    | @tup p vs _ hp q =>
      cases r
      obtain ⟨_, its, rv, o, ho, hc, n, hd⟩ := hp.ok I.hok
      have hz : (tupleText (PyData.shownAll ds)).length ≤ sizeLine := by simpa only [PyData.shown] using hz
      obtain ⟨bs, b1, b2⟩ := RpL.rk I q rv (by simpa [PyData.showable] using hs) (by simpa only [repB] using hb) fun t ht => Nat.le_trans (tupleText_mem_le ht) hz
      have out : p ∉ bs := not_mem_of_deeper whole (by simp only [PyData.depth]; omega) b1
      refine ⟨p :: bs, ReadAtMost.cons whole (by simp only [PyData.depth]; omega) b1, ?_⟩
      simp only [PyData.depth, PyData.shown]
      exact .tuple ho hc hd out b2
  | .dict (_ :: _), v, u, h, r, hs, hb, hz => by cases hb
  | .dict [], v, u, h, r, hs, hb, hz => by
    obtain ⟨_, whole⟩ := Rp.reads I h r
    cases h with
    | @dic p L _ hp hk q1 q2 =>
      cases r
      obtain ⟨o, es, n, ho, hc, hd, e0, lo⟩ := dic_raw I hp hk
      refine ⟨[p], ReadAtMost.cons whole (Nat.le_refl _) nofun, ?_⟩
      have out : p ∉ ([] : List Addr) := List.not_mem_nil
      simp only [PyData.depth, PyData.shown, PyData.shownKv_eq]
      exact .dict ho hc hd lo out (.of_two es.toList _ _ (by rw [e0]; exact .nil) (by rw [e0]; exact .nil))
    | dik _ hn hk _ => exact absurd (simp_dik hn hk) (by simp [simpB])
theorem RpL.rk (I : L2.Inv X pins σ H s) : ∀ {ds : List D} {vs : List V} {us : List Value}, RpL H vs ds → Vals vs us → PyData.showableAll ds = true → repBs ds = true → (∀ t ∈ PyData.shownAll ds, t.length ≤ sizeLine) → ∃ bs, ReadAtMost s.heap (PyData.depthAll ds) bs ∧ ReprAllK X.prog X.w bs s.heap (PyData.depthAll ds) us (PyData.shownAll ds)
  | [], _, _, h, r, _, _, _ => by cases h; cases r; exact ⟨[], nofun, by simp only [PyData.shownAll]; exact .nil⟩
  | d :: ds, _, _, h, r, hs, hb, hz => by
    simp only [repBs, Bool.and_eq_true] at hb
    cases h with
    | cons a b =>
      cases r with
      | cons r1 r2 =>
        simp only [PyData.showableAll, Bool.and_eq_true] at hs
        obtain ⟨bs, b1, b2⟩ := Rp.rk I a r1 hs.1 hb.1 (hz _ (by simp only [PyData.shownAll]; exact List.mem_cons_self))
        obtain ⟨cs, c1, c2⟩ := RpL.rk I b r2 hs.2 hb.2 fun t ht => hz t (by simp only [PyData.shownAll]; exact List.mem_cons_of_mem _ ht)
        refine ⟨bs ++ cs, fun x hx => ?_, ?_⟩
        · simp only [PyData.depthAll]
          rcases List.mem_append.mp hx with hx | hx
          · obtain ⟨e, as, q1, q2⟩ := b1 x hx
            exact ⟨e, as, q1, by omega⟩
          · obtain ⟨e, as, q1, q2⟩ := c1 x hx
            exact ⟨e, as, q1, by omega⟩
        · simp only [PyData.depthAll, PyData.shownAll]
          exact .cons ((b2.more fun x hx => List.mem_append_left _ hx).level_le (Nat.le_max_left _ _)) (c2.more_le (fun x hx => List.mem_append_right _ hx) (Nat.le_max_right _ _))
end
end
def dRepr (d : D) : Option D := if (repB d && d.showable && decide (d.depth ≤ 60) && decide (d.shown.length ≤ sizeLine)) = true then some (.str d.shown) else none
section
variable {α : Type} {X : Cx} {R : Res} {rk : RK α} {κ : Kt} {q : α → Nat → Prop} {ρ : List Cell} {o e : Expr} {rest : List Stmt} {pos apos cpos : Pos}
end
section
variable {α : Type} {X : Cx} {R : Res} {rk : RK α} {κ : KtE α} {ρ : List Cell} {o e : Expr} {rest : List Stmt} {pos apos cpos : Pos}
end
end Dl

set_option Elab.async false
set_option linter.all false
set_option autoImplicit false
set_option maxRecDepth 100000
set_option maxHeartbeats 1000000
namespace Dl
open PySem L2 PySem.Spec PyProof.Rows PySem.Calls
open PySem.W (AllAlike Sortable SortsAt EachIs dataLe dataKind sortVals copyHeap sortingHeap alike)

section
variable {prog : Program} {w : World} {A : Around} {E : Value → Shared → Prop} {s : Shared} {t : Addr} {us : List Value}
variable {β : Type} {R : Value → β → Prop} {bs : List β} {enc : β → D}
end
end Dl

set_option Elab.async false
set_option linter.all false
set_option autoImplicit false
set_option maxRecDepth 100000
set_option maxHeartbeats 1000000
namespace Dl
open PySem L2
section
variable {X : Cx} {R : Res} {ρ : List Cell} {e : Expr} {lo hi : Option Expr} {pos p2 : Pos}
end
end Dl

set_option Elab.async false
set_option linter.all false
set_option autoImplicit false
set_option maxRecDepth 100000
set_option maxHeartbeats 1000000
namespace Dl
open PySem L2
def Sp {α : Type} (k : Nat) (T : M α) (Φ : α → Prop) : Prop := ∀ (q : α → Nat → Prop) (m : Nat), m + k ≤ 1000000000 → (∀ a m', m' ≤ m + k → Φ a → q a m') → T q m
section
variable {α β : Type} {k k2 n : Nat} {T : M α} {Φ Ψ : α → Prop}
theorem Sp.mono {T : M α} (h : Sp k T Φ) (hk : k ≤ k2) (hΦ : ∀ a, Φ a → Ψ a) : Sp k2 T Ψ := fun q m hm hq => h q m (by omega) fun a m' hm' ha => hq a m' (by omega) (hΦ a ha)
theorem Sp.use {T : M α} {q : α → Nat → Prop} {m : Nat} (h : Sp k T Φ) (hm : m + k ≤ 1000000000) (hq : ∀ a m', m' ≤ m + k → Φ a → q a m') : T q m := h q m hm hq
theorem sp_lift {o : Option α} {a : α} (h : o = some a) : Sp 0 (lift o) (fun b => b = a) := fun q m _ hq => ⟨a, h, hq a m (Nat.le_refl _) rfl⟩
theorem sp_take {n : Nat} (h0 : 0 < n) (h1 : n < 2 ^ 256) : Sp 1 (m__law_take (.int n)) (fun d => ∃ v : Nat, d = .int v ∧ v < n) := fun q m hm hq => by
  unfold m__law_take
  exact ⟨n, rfl, h0, h1, by omega, fun v hv => hq _ _ (Nat.le_refl _) ⟨v, rfl, hv⟩⟩
/-- a draw whose amount is a number -/
theorem sp_draw {T : M D} {n : Nat} (h : Sp k T fun d => d = .int n) (h0 : 0 < n) (h1 : n < 2 ^ 256) : Sp (k + 1) (drawM (consM T nilM) (G1 m__law_take)) (fun d => ∃ v : Nat, d = .int v ∧ v < n) := fun q m hm hq =>
  h _ m (by omega) fun a m' hm' ha => by
    subst ha
    exact sp_take h0 h1 q m' (by omega) fun d m2 hm2 hd => hq d m2 (by omega) hd
theorem sp_op2 {Ta Tb : M D} {f : D → D → Option D} {Φa Φb : D → Prop} {Φ : D → Prop} (ha : Sp k Ta Φa) (hb : Sp k2 Tb Φb) (hf : ∀ x y, Φa x → Φb y → ∃ z, f x y = some z ∧ Φ z) : Sp (k + k2) (op2 f Ta Tb) Φ := fun q m hm hq =>
  ha _ m (by omega) fun x m1 hm1 hx => hb _ m1 (by omega) fun y m2 hm2 hy => by
    obtain ⟨z, hz, hΦ⟩ := hf x y hx hy
    exact ⟨z, hz, hq z m2 (by omega) hΦ⟩
theorem sp_nil : Sp 0 nilM (fun ds => ds = []) := fun q m _ hq => hq [] m (Nat.le_refl _) rfl
theorem sp_cons {T : M D} {Ts : M (List D)} {Φ : D → Prop} {Φs : List D → Prop} (h : Sp k T Φ) (hs : Sp k2 Ts Φs) : Sp (k + k2) (consM T Ts) (fun ds => ∃ d r, ds = d :: r ∧ Φ d ∧ Φs r) := fun q m hm hq =>
  h _ m (by omega) fun d m1 hm1 hd => hs _ m1 (by omega) fun r m2 hm2 hr => hq _ m2 (by omega) ⟨d, r, rfl, hd, hr⟩
theorem sp_lst {Ts : M (List D)} {Φs : List D → Prop} (h : Sp k Ts Φs) : Sp k (lstM Ts) (fun d => ∃ ds, d = .list ds ∧ Φs ds) := fun q m hm hq => h _ m hm fun ds m' hm' hd => hq _ m' hm' ⟨ds, rfl, hd⟩
theorem sp_tup {Ts : M (List D)} {Φs : List D → Prop} (h : Sp k Ts Φs) : Sp k (tupM Ts) (fun d => ∃ ds, d = .tuple ds ∧ Φs ds) := fun q m hm hq => h _ m hm fun ds m' hm' hd => hq _ m' hm' ⟨ds, rfl, hd⟩
theorem sp_app {Ts : M (List D)} {F : List D → Option β} {Φs : List D → Prop} {Φ : β → Prop} (h : Sp k Ts Φs) (hF : ∀ ds, Φs ds → ∃ b, F ds = some b ∧ Φ b) : Sp k (appM Ts F) Φ := fun q m hm hq => h _ m hm fun ds m' hm' hd => by
  obtain ⟨b, hb, hΦ⟩ := hF ds hd
  exact ⟨b, hb, hq b m' hm' hΦ⟩
theorem sp_bind {T : M D} {f : D → Option β} {Φd : D → Prop} {Φ : β → Prop} (h : Sp k T Φd) (hf : ∀ d, Φd d → ∃ b, f d = some b ∧ Φ b) : Sp k (bindM T f) Φ := fun q m hm hq => h _ m hm fun d m' hm' hd => by
  obtain ⟨b, hb, hΦ⟩ := hf d hd
  exact ⟨b, hb, hq b m' hm' hΦ⟩
/-- each element by at most k draws -/
def All2 (Φ : D → D → Prop) : List D → List D → Prop
  | [], [] => True
  | d :: ds, e :: es => Φ d e ∧ All2 Φ ds es
  | _, _ => False
theorem All2.len {Φ : D → D → Prop} : ∀ {ds es : List D}, All2 Φ ds es → es.length = ds.length
  | [], [], _ => rfl
  | d :: ds, e :: es, h => by simp [All2.len h.2]
  | [], _ :: _, h => h.elim
  | _ :: _, [], h => h.elim
theorem sp_cM {f : D → M D} {Φ : D → D → Prop} : ∀ {ds : List D}, (∀ d ∈ ds, Sp k (f d) (Φ d)) → Sp (ds.length * k) (cM (fun d => turnM (lift (some true)) (f d)) ds) (fun es => All2 Φ ds es)
  | [], _ => fun q m _ hq => hq [] m (by omega) trivial
  | d :: ds, h => fun q m hm hq => by
    have e : (ds.length + 1) * k = ds.length * k + k := Nat.succ_mul _ _
    rw [List.length_cons, e] at hm
    refine ⟨true, rfl, ?_⟩
    refine h d List.mem_cons_self _ m (by omega) fun x m1 hm1 hx => ?_
    exact sp_cM (fun d' hd' => h d' (List.mem_cons_of_mem _ hd')) _ m1 (by omega) fun es m2 hm2 hes => hq _ m2 (by rw [List.length_cons, e]; omega) ⟨hx, hes⟩
theorem sp_lc {Ti : M (List D)} {ds : List D} {f : D → M D} {Φ : D → D → Prop} (hi : Sp k2 Ti (fun es => es = ds)) (hl : ds.length < sizeLine) (h : ∀ d ∈ ds, Sp k (f d) (Φ d)) : Sp (k2 + ds.length * k) (lcM Ti fun d => turnM (lift (some true)) (f d)) (fun es => All2 Φ ds es) := fun q m hm hq =>
  hi _ m (by omega) fun a m1 hm1 ha => by
    subst ha
    exact ⟨hl, sp_cM h q m1 (by omega) fun es m2 hm2 he => hq es m2 (by omega) he⟩
end
@[irreducible] def m__law_draw_order (n1 : D) : M D := fun q =>
  ((consLM (lift (C1 dRg1 (some n1))) (consLM (lift (some [])) nilCM)) (cel2M (fun c3 c5 => (onLM (fun left2 => (onLM (fun found4 => ((lift (C1 (fun x => dRange [x]) (some n1))) fun ds => forK (S := List D × List D) (fun s6 turn10 kk7 => (popK (lendM (drawM (consM (lift (C1 dLen (some (PyData.list s6.1)))) nilM) (G1 m__law_take))) s6.2 s6.1 fun found11 left12 => (kk7 (left12, found11)))) ds (left2, found4) fun s9 => ((lift (C1 dTup (some (PyData.list s9.2)))) q))) c5)) c3))))
theorem rangeD0 (n : Nat) : rangeD 0 n = (List.range n).map fun (i : Nat) => PyData.int i := by
  unfold rangeD
  rw [Int.sub_zero, Int.toNat_natCast]
  exact List.map_congr_left fun i _ => by rw [Int.zero_add]
def ofN (xs : List Nat) : List D := xs.map fun (i : Nat) => PyData.int i
theorem ofN_len (xs : List Nat) : (ofN xs).length = xs.length := by simp [ofN]
theorem eraseIdx_ofN : ∀ (xs : List Nat) (v : Nat), (ofN xs).eraseIdx v = ofN (xs.eraseIdx v)
  | [], _ => by simp [ofN]
  | x :: xs, 0 => rfl
  | x :: xs, v + 1 => by
    show PyData.int x :: (ofN xs).eraseIdx v = _
    rw [eraseIdx_ofN xs v]
    rfl
theorem pick_perm : ∀ (xs : List Nat) (v : Nat) (h : v < xs.length), List.Perm ([xs[v]] ++ xs.eraseIdx v) xs
  | x :: xs, 0, _ => List.Perm.refl _
  | x :: xs, v + 1, h => (List.Perm.swap x (xs[v]'(by simpa using h)) _).trans ((pick_perm xs v (by simpa using h)).cons x)
theorem order_loop : ∀ (ts : List D) (left found : List Nat) (q : D → Nat → Prop) (m : Nat), left.length = ts.length → left.length + found.length < 1000000 → m + ts.length ≤ 1000000000 →
    (∀ (xs : List Nat) (m' : Nat), m' ≤ m + ts.length → xs.Perm (found ++ left) → q (.tuple (ofN xs)) m') →
    forK (S := List D × List D) (fun s6 turn10 kk7 => (popK (lendM (drawM (consM (lift (C1 dLen (some (PyData.list s6.1)))) nilM) (G1 m__law_take))) s6.2 s6.1 fun found11 left12 => (kk7 (left12, found11)))) ts (ofN left, ofN found) (fun s9 => ((lift (C1 dTup (some (PyData.list s9.2)))) q)) m
  | [], left, found, q, m, h1, _, _, hq => by
    have : left = [] := List.length_eq_zero_iff.mp h1
    subst this
    refine ⟨_, rfl, hq found m (by simp) (by simp)⟩
  | t :: ts, left, found, q, m, h1, h2, hm, hq => by
    have hl : 0 < left.length := by rw [h1]; simp
    rw [List.length_cons] at h1 hm
    refine sp_draw (k := 0) (n := left.length) (T := lift (C1 dLen (some (PyData.list (ofN left))))) (fun q' m' _ hq' => ⟨.int (left.length : Nat), by show some (PyData.int ((ofN left).length : Nat)) = _; rw [ofN_len], hq' _ m' (Nat.le_refl _) rfl⟩) hl (by omega) _ m (by omega) fun d m1 hm1 hd => ?_
    obtain ⟨v, rfl, hv⟩ := hd
    refine ⟨rfl, (v : Int), v, .int (left[v] : Nat), rfl, by omega, by omega, ?_, ?_, ?_, ?_⟩
    · exact ixN_nat' (by rw [ofN_len]; exact hv)
    · simp [ofN, hv]
    · rw [ofN_len, sizeLine_eq]; omega
    · have e1 : ofN found ++ [PyData.int (left[v] : Nat)] = ofN (found ++ [left[v]]) := by simp [ofN]
      have e2 : (ofN left).eraseIdx v = ofN (left.eraseIdx v) := eraseIdx_ofN left v
      show forK (S := List D × List D) _ ts ((ofN left).eraseIdx v, ofN found ++ [PyData.int (left[v] : Nat)]) _ m1
      rw [e1, e2]
      have hle : (left.eraseIdx v).length = left.length - 1 := List.length_eraseIdx_of_lt hv
      refine order_loop ts (left.eraseIdx v) (found ++ [left[v]]) q m1 (by omega) (by simp; omega) (by omega) fun xs m' hm' hp => hq xs m' (by rw [List.length_cons]; omega) (hp.trans ?_)
      rw [List.append_assoc]
      refine List.Perm.append_left found ?_
      exact pick_perm left v hv
theorem sp_order {n : Nat} (h0 : n < 100000) : Sp n (m__law_draw_order (.int n)) (fun d => ∃ xs : List Nat, d = .tuple (ofN xs) ∧ xs.Perm (List.range n)) := fun q m hm hq => by
  unfold m__law_draw_order
  have e1 : C1 dRg1 (some (PyData.int (n : Nat))) = some (ofN (List.range n)) := by
    have h : rgOk 0 n = true := by
      simp only [rgOk, decide_eq_true_eq]
      omega
    rw [c1_some]
    simp only [dRg1, h, if_true]
    rw [rangeD0]
    rfl
  have e2 : C1 (fun x => dRange [x]) (some (PyData.int (n : Nat))) = some (rangeD 0 n) := by
    have h : small62 n = true := by
      simp only [small62, decide_eq_true_eq]
      omega
    rw [c1_some]
    simp only [dRange, h, if_true]
  refine ⟨_, e1, _, rfl, ?_⟩
  refine ⟨_, e2, ?_⟩
  have hr : (rangeD 0 (n : Int)).length = n := by rw [rangeD_len]; omega
  refine order_loop (rangeD 0 n) (List.range n) [] q m (by rw [hr]; simp) (by simp; omega) (by rw [hr]; exact hm) fun xs m' hm' hp => hq _ m' (by rw [hr] at hm'; exact hm') ⟨xs, rfl, by simpa using hp⟩
end Dl

set_option Elab.async false
set_option linter.all false
set_option autoImplicit false
set_option maxRecDepth 100000
set_option maxHeartbeats 1000000
namespace Dl
open PySem L2
def b__law_same (self : D → D → Option (D)) (found1 due2 : D) : Option (D) :=
  (ifO (orO ((b2 (dIsN false) (some due2) (some PyData.none)).bind asB) ((b2 (dIsN false) (some found1) (some PyData.none)).bind asB)) (andV (b2 (dIsN false) (some due2) (some PyData.none)) (b2 (dIsN false) (some found1) (some PyData.none))) (ifO (orO (((some due2).map fun d => PyData.bool (isTy "bool" d)).bind asT) (((some found1).map fun d => PyData.bool (isTy "bool" d)).bind asT)) (andV ((some due2).map fun d => PyData.bool (isTy "bool" d)) (andV ((some found1).map fun d => PyData.bool (isTy "bool" d)) (b2 dEq (some found1) (some due2)))) (ifO (((some due2).map fun d => PyData.bool (isTy "int" d || isTy "str" d)).bind asT) (ifO ((b2 dNe ((some found1).map fun d => PyData.bool (isTy "int" d)) ((some due2).map fun d => PyData.bool (isTy "int" d))).bind asB) (some (PyData.bool false)) (andV ((some found1).map fun d => PyData.bool (isTy "int" d || isTy "str" d)) (b2 dEq (some found1) (some due2)))) (ifO (orO ((b2 dNe ((some due2).map fun d => PyData.bool (isTy "tuple" d)) ((some found1).map fun d => PyData.bool (isTy "tuple" d))).bind asB) ((b2 dNe ((some due2).map fun d => PyData.bool (isTy "list" d)) ((some found1).map fun d => PyData.bool (isTy "list" d))).bind asB)) (some (PyData.bool false)) (ifO ((b2 dNe (C1 dLen (some found1)) (C1 dLen (some due2))).bind asB) (some (PyData.bool false)) (b2 (dIn true) (some (PyData.bool false)) ((lcO (C2 dZip (some found1) (some due2)) fun d => un2 d fun one3 other4 => turnO (some true) (C2 self (some one3) (some other4))).map PyData.list)))))))
def m__law_same : Nat → D → D → Option (D)
  | 0 => fun _ _ => none
  | n + 1 => b__law_same (m__law_same n)
@[irreducible] def r__law_same : D → D → Option (D) := m__law_same 40
theorem cO_map {α : Type} {f : D → Option D} {g h : α → D} : ∀ (xs : List α), (∀ x ∈ xs, f (g x) = some (h x)) → cO (fun d => turnO (some true) (f d)) (xs.map g) = some (xs.map h)
  | [], _ => rfl
  | x :: xs, hf => by
    show (turnO (some true) (f (g x))).bind _ = _
    rw [hf x List.mem_cons_self]
    show (cO (fun d => turnO (some true) (f d)) (xs.map g)).bind _ = _
    rw [cO_map xs fun y hy => hf y (List.mem_cons_of_mem _ hy)]
    rfl
theorem lcO_map {α : Type} {f : D → Option D} {g h : α → D} {oi : Option (List D)} (xs : List α) (hi : oi = some (xs.map g)) (hl : xs.length < sizeLine) (hf : ∀ x ∈ xs, f (g x) = some (h x)) : lcO oi (fun d => turnO (some true) (f d)) = some (xs.map h) := by
  rw [hi]
  show (if (xs.map g).length < sizeLine then cO _ (xs.map g) else none) = _
  rw [if_pos (by rw [List.length_map]; exact hl)]
  exact cO_map xs hf
theorem eqOk_int (i j : Int) : eqOk (.int i) (.int j) = true := by simp [eqOk, PyData.plain, PyData.depth]
theorem eqOk_bool (i j : Bool) : eqOk (.bool i) (.bool j) = true := by simp [eqOk, PyData.plain, PyData.depth]
theorem dEq_int (i j : Int) : dEq (.int i) (.int j) = some (.bool (decide (i = j))) := by
  unfold dEq
  rw [if_pos (eqOk_int i j)]
  have e : (i == j) = decide (i = j) := by by_cases h : i = j <;> simp [h]
  simp [PyData.eqv, e]
theorem dNe_int (i j : Int) : dNe (.int i) (.int j) = some (.bool (!decide (i = j))) := by
  unfold dNe
  rw [if_pos (eqOk_int i j)]
  have e : (i == j) = decide (i = j) := by by_cases h : i = j <;> simp [h]
  simp [PyData.eqv, e]
theorem dNe_bool (i j : Bool) : dNe (.bool i) (.bool j) = some (.bool (!decide (i = j))) := by
  unfold dNe
  rw [if_pos (eqOk_bool i j)]
  cases i <;> cases j <;> simp [PyData.eqv]
theorem zip_self {α : Type} {f : D → D → Option D} {h : α → D} {g : α → D} : ∀ (xs : List α), (∀ x ∈ xs, f (g x) (g x) = some (h x)) → cO (fun d => un2 d fun a b => turnO (some true) (f a b)) (zipD (xs.map g) (xs.map g)) = some (xs.map h)
  | [], _ => rfl
  | x :: xs, hf => by
    show (turnO (some true) (f (g x) (g x))).bind _ = _
    rw [hf x List.mem_cons_self]
    show (cO _ (zipD (xs.map g) (xs.map g))).bind _ = _
    rw [zip_self xs fun y hy => hf y (List.mem_cons_of_mem _ hy)]
    rfl
theorem notin_true (n : Nat) : dIn true (.bool false) (.list (List.replicate n (.bool true))) = some (.bool true) := by
  have h1 : PyData.plainAll (List.replicate n (PyData.bool true)) = true := by
    induction n with
    | zero => rfl
    | succ n ih => rw [List.replicate_succ]; simp [PyData.plainAll, PyData.plain, ih]
  have h2 : (List.replicate n (PyData.bool true)).any (fun y => PyData.eqv y (.bool false)) = false := by
    rw [List.any_eq_false]
    intro y hy
    rw [(List.mem_replicate.mp hy).2]
    simp [PyData.eqv]
  have h3 : inOk (.bool false) (List.replicate n (.bool true)) = true := by
    simp [inOk, h1, PyData.plain, PyData.depth]
  show (if inOk (.bool false) (List.replicate n (.bool true)) = true then some (PyData.bool (if true = true then _ else _)) else none) = _
  rw [if_pos h3, if_pos rfl, h2]
  rfl
theorem same_int (n : Nat) (i j : Int) : m__law_same (n + 1) (.int i) (.int j) = some (.bool (decide (i = j))) := by
  show b__law_same _ _ _ = _
  unfold b__law_same
  have e1 : b2 dNe ((some (PyData.int i)).map fun d => PyData.bool (isTy "int" d)) ((some (PyData.int j)).map fun d => PyData.bool (isTy "int" d)) = some (.bool false) := dNe_bool true true
  have e2 : b2 dEq (some (.int i)) (some (.int j)) = some (.bool (decide (i = j))) := dEq_int i j
  rw [e1, e2]
  rfl
theorem same_seq {n : Nat} {ds : List D} {d : D} (hd : d = .list ds ∨ d = .tuple ds) (hl : ds.length < sizeLine) (h : ∀ x ∈ ds, m__law_same n x x = some (.bool true)) : m__law_same (n + 1) d d = some (.bool true) := by
  have hz : lcO (some (zipD ds ds)) (fun d => un2 d fun a b => turnO (some true) (C2 (m__law_same n) (some a) (some b))) = some (List.replicate ds.length (.bool true)) := by
    show (if (zipD ds ds).length < sizeLine then cO _ (zipD ds ds) else none) = _
    rw [if_pos (by rw [zipD_len]; omega)]
    have := zip_self (f := fun a b => C2 (m__law_same n) (some a) (some b)) (g := id) (h := fun _ => PyData.bool true) ds (fun x hx => h x hx)
    rw [List.map_id] at this
    rw [this, List.map_const']
  have hb : ∀ b : Bool, b2 dNe (some (.bool b)) (some (.bool b)) = some (.bool false) := fun b => by
    rw [b2_some, dNe_bool]
    simp
  have hi : ∀ i : Int, b2 dNe (some (.int i)) (some (.int i)) = some (.bool false) := fun i => by
    rw [b2_some, dNe_int]
    simp
  show b__law_same _ _ _ = _
  unfold b__law_same
  rcases hd with rfl | rfl
  · have e1 : C1 dLen (some (.list ds)) = some (.int ds.length) := rfl
    have e2 : C2 dZip (some (.list ds)) (some (.list ds)) = some (zipD ds ds) := rfl
    rw [e1, e2, hi, hz]
    have e3 : b2 (dIn true) (some (PyData.bool false)) ((some (List.replicate ds.length (PyData.bool true))).map PyData.list) = some (.bool true) := notin_true _
    rw [e3]
    have t1 : b2 dNe ((some (PyData.list ds)).map fun d => PyData.bool (isTy "tuple" d)) ((some (PyData.list ds)).map fun d => PyData.bool (isTy "tuple" d)) = some (.bool false) := hb _
    have t2 : b2 dNe ((some (PyData.list ds)).map fun d => PyData.bool (isTy "list" d)) ((some (PyData.list ds)).map fun d => PyData.bool (isTy "list" d)) = some (.bool false) := hb _
    rw [t1, t2]
    rfl
  · have e1 : C1 dLen (some (.tuple ds)) = some (.int ds.length) := rfl
    have e2 : C2 dZip (some (.tuple ds)) (some (.tuple ds)) = some (zipD ds ds) := rfl
    rw [e1, e2, hi, hz]
    have e3 : b2 (dIn true) (some (PyData.bool false)) ((some (List.replicate ds.length (PyData.bool true))).map PyData.list) = some (.bool true) := notin_true _
    rw [e3]
    have t1 : b2 dNe ((some (PyData.tuple ds)).map fun d => PyData.bool (isTy "tuple" d)) ((some (PyData.tuple ds)).map fun d => PyData.bool (isTy "tuple" d)) = some (.bool false) := hb _
    have t2 : b2 dNe ((some (PyData.tuple ds)).map fun d => PyData.bool (isTy "list" d)) ((some (PyData.tuple ds)).map fun d => PyData.bool (isTy "list" d)) = some (.bool false) := hb _
    rw [t1, t2]
    rfl
end Dl

set_option Elab.async false
set_option linter.all false
set_option autoImplicit false
set_option maxRecDepth 100000
set_option maxHeartbeats 2000000
namespace Dl
open PySem L2 PySem.Spec PyProof.Rows PySem.Calls
section
variable {P : Program} {w : World} {A : Around} {E : Value → Shared → Prop} {s : Shared} {a : Addr} {L : List (Addr × List Int)} {es : Array (Int × Value)} {ep : Nat} {t : SetTable}
/-- the set at a, its table of any of the sizes -/
structure S0 (P : Program) (w : World) (h : Heap) (a : Addr) (L : List (Addr × List Int)) (es : Array (Int × Value)) (ep : Nat) (t : SetTable) : Prop where
  at_ : ∃ o, h.get? a = some o ∧ o.ExactSet ∧ o.data = .set es ep t
  row : es.toList = rowsOf P w L
  tb : TabOk t (L.map fun p => thash P w p.2)
  one : (L.map (·.2)).Nodup
  tp : ∀ p ∈ L, IsT P w h p.2 p.1
  pl : t.plain = true
  ld : w.params.followText "set-order" = true ∨ t.led = true
  rm : L.length * 5 < t.mask * 3
  lim : L.length ≤ 76
theorem SetTR.s0 {h : Heap} (R : SetTR P w h a L es ep t) : S0 P w h a L es ep t := ⟨R.ob, R.rows, R.tab, R.nd, R.tup, R.plain, R.led, R.room, by have := R.few; omega⟩
theorem S0.len {h : Heap} (R : S0 P w h a L es ep t) : es.size = L.length := by
  have q := congrArg List.length R.row
  simpa [rowsOf] using q
theorem S0.fit {h : Heap} (R : S0 P w h a L es ep t) : t.fits es.size = true := by
  have q1 := R.tb.sz
  have q2 := R.len
  have q3 := R.rm
  rw [List.length_map] at q1
  simp only [SetTable.fits, SetTable.fill, R.tb.dm, Bool.and_eq_true, beq_iff_eq, decide_eq_true_eq]
  refine ⟨by omega, ?_⟩
  show t.place.size + 0 ≤ t.mask
  omega
theorem S0.at {h : Heap} (R : S0 P w h a L es ep t) {i : Nat} {p : Addr × List Int} (e : L[i]? = some p) : es[i]? = some (thash P w p.2, Value.ref p.1) := by
  rw [← Array.getElem?_toList, R.row, rowsOf, List.getElem?_map, e]
  rfl
theorem S0.stays {h : Heap} (R : S0 P w h a L es ep t) : ¬ t.gaveWay = true := by
  simp only [SetTable.gaveWay, mask_odd R.tb.mok]
  decide
/-- the c-th step of the way of a hash -/
abbrev stepAt (t : SetTable) (h : Int) (c : Nat) : SetTable.Probe := nth t.mask (runAt t.mask (SetTable.bits h % (t.mask + 1)) (SetTable.bits h)) c
theorem stepAt_clear (t : SetTable) (h : Int) (c : Nat) : (stepAt t h c).dummy = none := by
  have gen : ∀ (n : Nat) (p : SetTable.Probe), p.dummy = none → (nth t.mask p n).dummy = none := fun n => by
    induction n with
    | zero => exact fun _ q => q
    | succ n ih => exact fun p q => ih (adv t.mask p) (by unfold adv; split <;> exact q)
  exact gen c _ rfl
theorem stepAt_add (t : SetTable) (h : Int) (c q : Nat) : nth t.mask (stepAt t h c) q = stepAt t h (c + q) := (nth_add t.mask c _ q).symm
theorem stepAt_way (t : SetTable) (h : Int) (c q : Nat) : (nth t.mask (stepAt t h c) q).j = way t.mask h (c + q) := congrArg SetTable.Probe.j (stepAt_add t h c q)
def hashIn (es : Array (Int × Value)) (i : Nat) : Int := (es[i]?.map (·.1)).getD 0
theorem S0.hash {h : Heap} (R : S0 P w h a L es ep t) {i : Nat} {p : Addr × List Int} (e : L[i]? = some p) : hashIn es i = thash P w p.2 := by
  unfold hashIn
  rw [R.at e]
  rfl
theorem look_from (R : S0 P w s.heap a L es ep t) {x : Addr} {k : List Int} (hx : IsT P w s.heap k x) (hu : A.units < cLine) {K : Nat} (hKf : K < 10 * SetTable.turns t.mask) (hK : way t.mask (thash P w k) K ∉ t.place.toList) (hKb : ∀ c, c < K → way t.mask (thash P w k) c ∈ t.place.toList)
    {Q : SetFound → Shared → Prop} (found : k ∈ L.map (·.2) → Q (.there none) s) (free : k ∉ L.map (·.2) → Q (.free (way t.mask (thash P w k) K) false) s) : ∀ (f c : Nat) (st : Option SetTable.Probe), st.getD (t.probeStart (thash P w k)) = stepAt t (thash P w k) c → c ≤ K → K - c < f →
      (∀ (i : Nat) p, L[i]? = some p → p.2 = k → ∃ e, c ≤ e ∧ e < K ∧ t.place.toList[i]? = some (way t.mask (thash P w k) e)) → wpAny (model P w) A (setSearchFrom a (.ref x) (thash P w k) true f st) Q E s
  | 0, _, _, _, _, hf, _ => (Nat.not_lt_zero _ hf).elim
  | f + 1, c, st, hst, hc, hf, ahead => by
    obtain ⟨o, ho, hex, hd⟩ := R.at_
    rw [setSearchFrom_succ]
    refine wpAny_bind (wpAny_setState_of ho hd R.fit ?_)
    dsimp only
    refine wp_if_neg R.stays ?_
    try refine wpAny_bind (wpAny_pure ?_)
    rcases go_spec t R.tb.ris R.tb.dm (hashIn es) (thash P w k) (10 * SetTable.turns t.mask) (K - c) (stepAt t (thash P w k) c) (stepAt_clear _ _ _) (by omega) (fun q hq => by rw [stepAt_way]; exact hKb (c + q) (by omega)) (by rw [stepAt_way, show c + (K - c) = K by omega]; exact hK) with ⟨q, i, hq, hi, hh, hno, hpr⟩ | ⟨hno, hpr⟩
    · -- an entry of the same hash
      have step : t.probe (hashIn es) (thash P w k) (st.getD (t.probeStart (thash P w k))) = some (.candidate (way t.mask (thash P w k) (c + q)) i (stepAt t (thash P w k) (c + (q + 1)))) := by
        rw [hst, ← stepAt_way, ← stepAt_add]
        exact hpr
      have step' : t.probe (fun i => (es[i]?.map (·.1)).getD 0) (thash P w k) (st.getD (t.probeStart (thash P w k))) = some (.candidate (way t.mask (thash P w k) (c + q)) i (stepAt t (thash P w k) (c + (q + 1)))) := step
      rw [step']
      dsimp only
      rw [stepAt_way] at hi
      have small : i < L.length := by
        have q1 := (List.getElem?_eq_some_iff.mp hi).1
        have q2 := R.tb.sz
        rw [List.length_map] at q2
        rw [Array.length_toList] at q1
        omega
      obtain ⟨p, hp⟩ : ∃ p, L[i]? = some p := ⟨_, List.getElem?_eq_getElem small⟩
      have hin := List.mem_of_getElem? hp
      have rest : wpAny (model P w) A (searchRest a (.ref x) (thash P w k) true f es t (way t.mask (thash P w k) (c + q)) i (stepAt t (thash P w k) (c + (q + 1)))) Q E s := by
        unfold searchRest
        rw [R.at hp]
        dsimp only
        refine wpAny_bind (wpAny_holding (wpAny_eqBool_tuple hu (R.tp p hin) hx (wpAny_bind (wpAny_setState_of ho hd R.fit ?_))))
        dsimp only
        by_cases same : p.2 = k
        · exact wp_if_pos (by simp [same]) (wpAny_pure (found (List.mem_map.mpr ⟨p, hin, same⟩)))
        · refine wp_if_neg (by simp [same]) ?_
          try refine wpAny_bind (wpAny_pure ?_)
          rw [sameMem]
          dsimp only
          have live : t.slot (way t.mask (thash P w k) (c + q)) = .live i := slot_live R.tb.ris hi
          simp only [if_true, live, R.at hp]
          refine wpAny_bind (wpAny_isSame_ref_self (wpAny_bind (wpAny_pure ?_)))
          simp only [if_true]
          refine wp_if_neg (by simp [same]) ?_
          refine look_from R hx hu hKf hK hKb found free f (c + (q + 1)) _ rfl (by omega) (by omega) fun j r hj hr => ?_
          obtain ⟨e, e1, e2, e3⟩ := ahead j r hj hr
          refine ⟨e, ?_, e2, e3⟩
          by_cases lt : e < c + q
          · refine (hno (e - c) j (by omega) (by rw [stepAt_way, show c + (e - c) = e by omega]; exact e3) ?_).elim
            exact (R.hash hj).trans (congrArg (thash P w) hr)
          · by_cases eq : e = c + q
            · subst eq
              have z := slot_live R.tb.ris e3
              rw [live] at z
              injection z with z
              subst z
              rw [hp] at hj
              cases hj
              exact (same hr).elim
            · omega
      by_cases hl : t.led = true
      · refine wp_if_neg (by simp [hl]) ?_
        try refine wpAny_bind (wpAny_pure ?_)
        exact rest
      · refine wp_if_pos (by simp [hl]) (wpAny_bind (seen_tup hx (fun y hy => ?_) ?_))
        · obtain ⟨e, he, rfl⟩ := List.mem_map.mp hy
          have he : e ∈ es.toList := by
            have : e ∈ es ∧ e.1 = thash P w k := by simpa using he
            simpa using this.1
          rw [R.row] at he
          obtain ⟨r, hr, rfl⟩ := List.mem_map.mp he
          exact ⟨r.2, r.1, rfl, R.tp r hr⟩
        · refine wp_if_neg (by decide) ?_
          try refine wpAny_bind (wpAny_pure ?_)
          exact rest
    · -- nothing stands there
      have step : t.probe (fun i => (es[i]?.map (·.1)).getD 0) (thash P w k) (st.getD (t.probeStart (thash P w k))) = some (.empty (way t.mask (thash P w k) K) none) := by
        have e2 : way t.mask (thash P w k) K = (nth t.mask (stepAt t (thash P w k) c) (K - c)).j := by rw [stepAt_way, show c + (K - c) = K by omega]
        rw [hst, e2]
        exact hpr
      rw [step]
      dsimp only
      refine wpAny_pure (free fun hm => ?_)
      obtain ⟨r, hr, rfl⟩ := List.mem_map.mp hm
      obtain ⟨j, hj, ej⟩ := List.getElem_of_mem hr
      have hj' : L[j]? = some r := by rw [List.getElem?_eq_getElem hj, ej]
      obtain ⟨e, e1, e2, e3⟩ := ahead j r hj' rfl
      exact hno (e - c) j (by omega) (by rw [stepAt_way, show c + (e - c) = e by omega]; exact e3) (R.hash hj')
theorem look_at (R : S0 P w s.heap a L es ep t) {x : Addr} {k : List Int} (hx : IsT P w s.heap k x) (hu : A.units < cLine) {Q : SetFound → Shared → Prop} (found : k ∈ L.map (·.2) → Q (.there none) s)
    (free : ∀ K, k ∉ L.map (·.2) → way t.mask (thash P w k) K ∉ t.place.toList → (∀ c, c < K → way t.mask (thash P w k) c ∈ t.place.toList) → Q (.free (way t.mask (thash P w k) K) false) s) :
    wpAny (model P w) A (setSearch a (.ref x) (thash P w k) true) Q E s := by
  have rm := R.rm
  obtain ⟨K, k1, k2, k3⟩ := R.tb.first (by rw [List.length_map]; omega) (thash P w k)
  have lt : K < 100000 := by
    have u : SetTable.turns t.mask ≤ 142 := by unfold SetTable.turns; rcases R.tb.mok with e | e | e <;> omega
    omega
  unfold setSearch
  refine look_from R hx hu k1 k2 k3 found (fun q => free K q k2 k3) 100000 0 none rfl (Nat.zero_le _) (by omega) fun i p e1 e2 => ?_
  have e3 : (L.map fun p => thash P w p.2)[i]? = some (thash P w k) := by rw [List.getElem?_map, e1, ← e2]; rfl
  have e4 : i < t.place.toList.length := by
    have l1 := (List.getElem?_eq_some_iff.mp e1).1
    have l2 := R.tb.sz
    rw [List.length_map] at l2
    rw [Array.length_toList, l2]
    exact l1
  have e5 := List.getElem?_eq_getElem e4
  obtain ⟨c, c1, c2⟩ := R.tb.before k2 e3 e5
  exact ⟨c, Nat.zero_le _, c1, by rw [e5, c2]⟩
/-- one more tuple -/
theorem more_at (R : S0 P w s.heap a L es ep t) {x : Addr} {k : List Int} (hx : IsT P w s.heap k x) (hu : A.units < cLine) (lim : L.length + 1 ≤ 76) {Q : Bool → Shared → Prop}
    (hQ : ∀ b h' L' es' ep' t', Heap.SameBut a s.heap h' → S0 P w h' a L' es' ep' t' → (k ∈ L.map (·.2) → L' = L) → (k ∉ L.map (·.2) → L'.Perm ((x, k) :: L)) → Q b { s with heap := h' }) : wpAny (model P w) A (setAddHashed a (.ref x) (thash P w k)) Q E s := by
  by_cases few : L.length + 1 < 64
  · exact add_at ⟨R.at_, R.row, R.tb, R.one, R.tp, R.pl, R.ld, R.rm, by omega⟩ hx hu few fun b h' L' es' ep' t' q1 q2 => hQ b h' L' es' ep' t' q1 (SetTR.s0 q2)
  · have rm := R.rm
    have wide : t.mask = 127 := by rcases R.tb.mok with e | e | e <;> omega
    obtain ⟨o, ho, hex, hd⟩ := R.at_
    have len := R.len
    unfold setAddHashed
    refine wpAny_holding ?_
    rw [show (100000 : Nat) = 99999 + 1 from rfl, setAddHashedIn_succ]
    refine wpAny_bind (wpAny_setState_of ho hd R.fit ?_)
    dsimp only
    refine wp_if_neg (by simp [byScan, Value.scannable]) ?_
    try refine wpAny_bind (wpAny_pure ?_)
    refine wpAny_bind (look_at R hx hu (fun z => wpAny_pure (hQ false s.heap L es ep t (Heap.SameBut.refl a s.heap) R (fun _ => rfl) fun n => absurd z n)) fun K no k2 k3 => ?_)
    dsimp only
    refine wpAny_bind (wpAny_setState_of ho hd R.fit ?_)
    dsimp only
    obtain ⟨q1, q2, q3, q4, q5, q6, q7, q8, q9⟩ := R.tb.put k2 k3
    have pl : (t.put (way t.mask (thash P w k) K)).1.plain = true := q6.trans R.pl
    generalize t.put (way t.mask (thash P w k) K) = pt at q1 q3 q4 q5 q6 q7 q8 q9 pl ⊢
    obtain ⟨t1, p⟩ := pt
    dsimp only at q1 q3 q4 q5 q6 q7 q8 q9 pl ⊢
    subst q1
    first
      | (refine wpAny_bind ?_; refine wp_if_pos pl ?_; refine hashBy_tup hx ?_)
      | refine wp_if_pos pl (wpAny_bind (hashBy_tup hx ?_))
    simp only [if_true]
    have rows : (SetTable.insertAt es (SetTable.below t.place (way t.mask (thash P w k) K)) (thash P w k, Value.ref x)).toList = rowsOf P w (L.take (SetTable.below t.place (way t.mask (thash P w k) K)) ++ (x, k) :: L.drop (SetTable.below t.place (way t.mask (thash P w k) K))) := by
      rw [SetTable.toList_insertAt, rows_put, R.row]
    generalize SetTable.below t.place (way t.mask (thash P w k) K) = p at q2 q3 rows ⊢
    have pm := put_perm L p (x, k)
    have len1 : (L.take p ++ (x, k) :: L.drop p).length = L.length + 1 := pm.length_eq
    rw [show (L.map fun p => thash P w p.2).take p ++ thash P w k :: (L.map fun p => thash P w p.2).drop p = (L.take p ++ (x, k) :: L.drop p).map fun p => thash P w p.2 by rw [List.map_append, List.map_cons, List.map_take, List.map_drop]] at q3
    have one : ((L.take p ++ (x, k) :: L.drop p).map (·.2)).Nodup := (pm.map (·.2)).nodup_iff.mpr (List.nodup_cons.mpr ⟨no, R.one⟩)
    have size1 : (SetTable.insertAt es p (thash P w k, Value.ref x)).size = L.length + 1 := by
      have := congrArg List.length rows
      rw [Array.length_toList] at this
      rw [this, ← len1]
      simp [rowsOf]
    generalize SetTable.insertAt es p (thash P w k, Value.ref x) = es1 at rows size1 ⊢
    generalize L.take p ++ (x, k) :: L.drop p = L1 at pm len1 q3 one rows
    refine wpAny_bind (wpAny_storeSet_of ho hd ?_ (by rw [size1, sizeLine_eq]; omega))
    have sb : Heap.SameBut a s.heap (s.heap.update a (Obj.putSet es1 t1)) := Heap.SameBut.update ..
    have ho1 := store_at (es' := es1) (t' := t1) ho hd
    generalize s.heap.update a (Obj.putSet es1 t1) = h1 at sb ho1 ⊢
    have room : ¬ t1.tooFull = true := by
      unfold SetTable.tooFull
      rw [decide_eq_true_eq, q9, List.length_map, q4, wide]
      omega
    first
      | refine wp_if_neg (by simp [room]) ?_
      | (refine wpAny_bind ?_; refine wp_if_neg (by simp [room]) ?_; refine wpAny_pure ?_)
    refine wpAny_pure (hQ true h1 L1 es1 (ep + 1) t1 sb ⟨⟨_, ho1, ⟨hex.1, hex.2.1, hex.2.2⟩, rfl⟩, rows, q3, one, fun r hr => ?_, pl, by rw [q5]; exact R.ld, by rw [len1, q4, wide]; omega, by omega⟩ (fun z => absurd z no) fun _ => pm)
    rcases List.mem_cons.mp (pm.mem_iff.mp hr) with e | hr
    · rw [e]; exact isT_same hx ho hd sb
    · exact isT_same (R.tp r hr) ho hd sb
theorem S0.keep {h h' : Heap} (R : S0 P w h a L es ep t) (ha : ∀ o, h.get? a = some o → h'.get? a = some o) (ht : ∀ p ∈ L, IsT P w h' p.2 p.1) : S0 P w h' a L es ep t := by
  obtain ⟨o, ho, r⟩ := R.at_
  exact ⟨⟨o, ha o ho, r⟩, R.row, R.tb, R.one, ht, R.pl, R.ld, R.rm, R.lim⟩
/-- set.update's walk over up to 76 tuples -/
theorem fill_loop {I : Addr} {fp wr : List Addr} {G : Array GenState → Array GenState → Prop} {n : Nat} {Pv : Nat → Value → Prop} {St : Nat → Shared → Prop} {R : Result → Shared → Prop} (W : WalksS P w A.in1 I fp wr G n Pv St) {ks : List (Addr × List Int)} (hn : n = ks.length) (lim : ks.length ≤ 76)
    (val : ∀ i v, Pv i v → ∃ p, ks[i]? = some p ∧ v = .ref p.1) {old : Heap} (hk : ∀ p ∈ ks, IsT P w old p.2 p.1) (far : a ∉ fp) (new : old.get? a = none) (newW : ∀ b ∈ wr, old.get? b = none) (hu : A.in1.units < cLine)
    (fin : ∀ s' L es ep t, Moved (a :: wr) G s s' → S0 P w s'.heap a L es ep t → Got ks n L → (∀ b o, old.get? b = some o → s'.heap.get? b = some o) → R (.ok (.ret .none)) s') :
    ∀ (m i : Nat) (z : Shared), i + m = n → St i z → (∀ b o, old.get? b = some o → z.heap.get? b = some o) → (Moved (a :: wr) G s z ∨ z = s) → (∃ L es ep t, S0 P w z.heap a L es ep t ∧ Got ks i L) →
      codeAny (model P w) A (.builtin "set.update.loop" ⟨[.ref a, .ref I], []⟩) R z := by
  have farW : a ∉ wr := fun z => far (W.sub _ z)
  have sub : ∀ b ∈ wr, b ∈ a :: wr := fun b hb => List.mem_cons_of_mem _ hb
  have still : ∀ {z z' : Shared}, Moved wr G z z' → (∀ b o, old.get? b = some o → z.heap.get? b = some o) → ∀ b o, old.get? b = some o → z'.heap.get? b = some o := fun mv kp b o e => mv.heap b o (fun hb => by rw [newW b hb] at e; cases e) (kp b o e)
  have on : ∀ {z z' : Shared}, (Moved (a :: wr) G s z ∨ z = s) → Moved (a :: wr) G z z' → Moved (a :: wr) G s z' := fun c mv => c.elim (fun c => Moved.trans W.gtrans c mv) fun e => e ▸ mv
  intro m
  induction m with
  | zero =>
    rintro i z e st kp mz ⟨L, es, ep, t, S, g⟩
    obtain rfl : i = n := by omega
    refine codeAny_builtin F.entry_set_update_loop ?_
    rw [Around.under_plainId F.plain_set_update_loop _]
    refine wpAny_bind (m := pyNext (.ref I)) (W.done z _ _ st fun z' mv => ?_)
    have kp' := still mv kp
    exact wpAny_pure (fin z' L es ep t (on mz (mv.mono sub)) (S.keep (fun o q => mv.heap a o farW q) fun p hp => isT_keep (hk p (List.mem_of_mem_take (g.sub p hp))) kp') g kp')
  | succ m ih =>
    rintro i z e st kp mz ⟨L, es, ep, t, S, g⟩
    refine codeAny_builtin F.entry_set_update_loop ?_
    rw [Around.under_plainId F.plain_set_update_loop _]
    refine wpAny_bind (m := pyNext (.ref I)) (W.item i z _ _ (by omega) st fun v z' hv st' mv => ?_)
    obtain ⟨p, hp, rfl⟩ := val i v hv
    have kp' := still mv kp
    have hx : IsT P w z'.heap p.2 p.1 := isT_keep (hk p (List.mem_of_getElem? hp)) kp'
    refine wpAny_bind (m := holding [Value.ref p.1] (setAdd a (.ref p.1))) (wpAny_holding ?_)
    unfold setAdd
    refine wpAny_holding (wpAny_bind (wpAny_pyHash_tuple hu hx ?_))
    have gl := g.len
    refine more_at (s := { z' with toks := z'.toks + (p.2.length + 1) }) (S.keep (h' := z'.heap) (fun o q => mv.heap a o farW q) fun q hq => isT_keep (hk q (List.mem_of_mem_take (g.sub q hq))) kp') hx hu (by omega) fun b h' L' es' ep' t' sb S' c1 c2 => ?_
    have g' : Got ks (i + 1) L' := by
      rcases Classical.em (p.2 ∈ L.map (·.2)) with c | c
      · rw [c1 c]; exact g.same hp c
      · exact g.more hp (c2 c)
    refine wpAny_pure ⟨plainId_quiet F.plain_set_update_loop _, ih (i + 1) _ (by omega) (W.frame _ z' _ _ st' (Nat.le_add_right _ _) fun b hb o q => ?_) (fun b o q => ?_) (.inl (on mz ((mv.mono sub).then_heap (Nat.le_add_right _ _) fun b o hb q => ?_))) ⟨L', es', ep', t', S', g'⟩⟩
    · exact (sb.2 b fun c : b = a => far (c ▸ hb)).trans q
    · exact (sb.2 b fun c => by rw [c, new] at q; cases q).trans (kp' b o q)
    · exact (sb.2 b fun c => hb (by rw [c]; exact List.mem_cons_self)).trans q
/-- a new set, empty -/
theorem s0_new {h : Heap} (ho : h.get? a = some { cls := .type "set", dict := none, data := .set #[] 0 (.fresh 0 0 (!w.params.followText "set-order")) }) : S0 P w h a [] #[] 0 (.fresh 0 0 (!w.params.followText "set-order")) := SetTR.s0 (setTR_fresh ho)
end
/-- the set as the heap's picture has it -/
structure SU0 (P : Program) (w : World) (h : Heap) (a : Addr) (L : List (Addr × List Int)) : Prop where
  raw : ∃ (es : Array (Int × Value)) (ep : Nat) (t : SetTable), (∃ o, h.get? a = some o ∧ o.ExactSet ∧ o.data = .set es ep t) ∧ es.toList = rowsOf P w L ∧ TabOk t (L.map fun p => thash P w p.2) ∧ t.plain = true ∧ (w.params.followText "set-order" = true ∨ t.led = true) ∧ L.length * 5 < t.mask * 3
  one : (L.map (·.2)).Nodup
  lim : L.length ≤ 76
def SetUO (P : Program) (w : World) (a : Addr) (L : List (Addr × List Int)) : HO := .ext fun h => SU0 P w h a L
theorem S0.su {P : Program} {w : World} {h : Heap} {a : Addr} {L : List (Addr × List Int)} {es : Array (Int × Value)} {ep : Nat} {t : SetTable} (R : S0 P w h a L es ep t) : SU0 P w h a L :=
  ⟨⟨es, ep, t, R.at_, R.row, R.tb, R.pl, R.ld, R.rm⟩, R.one, R.lim⟩
theorem SU0.back {P : Program} {w : World} {h : Heap} {a : Addr} {L : List (Addr × List Int)} (R : SU0 P w h a L) (ht : ∀ p ∈ L, IsT P w h p.2 p.1) : ∃ es ep t, S0 P w h a L es ep t := by
  obtain ⟨⟨es, ep, t, r1, r2, r3, r4, r5, r6⟩, r7, r8⟩ := R
  exact ⟨es, ep, t, r1, r2, r3, r7, ht, r4, r5, r6, r8⟩
theorem setUO_new {P : Program} {w : World} {H : Hp} {h : Heap} {a : Addr} {L : List (Addr × List Int)} (R : SU0 P w h a L) : ObjOk P w H h a (SetUO P w a L) := by
  have ⟨_, _, _, ⟨o, ho, _⟩, _⟩ := R.raw
  refine ⟨R, ⟨o, ho⟩, fun h1 h2 p k => ?_⟩
  obtain ⟨⟨es', ep', t', ⟨o', ho', r'⟩, q'⟩, q2, q3⟩ := p
  exact ⟨⟨es', ep', t', ⟨o', k o' ho', r'⟩, q'⟩, q2, q3⟩
end Dl

set_option Elab.async false
set_option linter.all false
set_option autoImplicit false
set_option maxRecDepth 100000
set_option maxHeartbeats 1000000
namespace Dl
open PySem L2 PySem.Spec PyProof.Rows PySem.Calls
section
variable {P : Program} {w : World} {A : Around} {E : Value → Shared → Prop} {s : Shared}
abbrev newSet (w : World) : Obj := { cls := .type "set", dict := none, data := .set #[] 0 (.fresh 0 0 (!w.params.followText "set-order")) }
/-- what filling the new set S with the items of x leaves -/
def Fill (P : Program) (w : World) (A : Around) (s : Shared) (x : Value) (Z : Shared → Prop) : Prop := ∀ R : Result → Shared → Prop, (∀ z, Z z → R (.ok (.ret .none)) z) →
  codeAny (model P w) A.in1 (.builtin "set.__init__" ⟨[.ref s.heap.objs.size, x], []⟩) R { s with heap := s.heap.push (newSet w) }
theorem set_by {x : Value} {Z : Shared → Prop} {Q : Value → Shared → Prop} (fill : Fill P w A s x Z) (h : ∀ z, Z z → Q (.ref s.heap.objs.size) z) : wpAny (model P w) A (call (.type "set") [x]) Q E s := by
  obtain ⟨_, _, hmro⟩ := F.called_set.mro
  have m1 := F.called_set.made
  have m2 := F.called_set.sub
  refine wpAny_call (codeAny_of_tree (?_ : wpAny _ _ (callAny (.type "set") _) _ _ _))
  refine wpAny_pure ⟨Code.quiet_builtin _ (by decide +kernel), codeAny_builtin F.entry_type_call ?_⟩
  rw [Around.under_plain (weight_type_call_type "set" [x] []) rfl]
  have m3 := F.called_set.notType
  have m4 := F.called_set.canCreate
  have m5 := F.typeCall_set_1 x
  repeat (any_goals (first | assumption | wp_step))
  refine codeAny_mono (code_set_led1 x (E := E) (Q₁ := fun obj z => obj = .ref s.heap.objs.size ∧ z = { s with heap := s.heap.push (newSet w) }) ⟨rfl, rfl⟩) fun r z hr => ?_
  cases r with
  | error e => exact hr
  | ok fl =>
    cases fl with
    | ret obj =>
      obtain ⟨rfl, rfl⟩ := hr
      have hT : Shared.TypeIs { s with heap := s.heap.push (newSet w) } (.ref s.heap.objs.size) "set" := ⟨_, Heap.get?_push_size _ rfl, rfl⟩
      have m6 := F.called_set.init.lookup
      have m7 := F.called_set.init.bind (.ref s.heap.objs.size)
      repeat (any_goals (first | assumption | wp_step))
      refine codeAny_call_builtin_code (Code.quiet_builtin _ (by decide +kernel)) (check_set_init_1 hT ?_)
      refine fill _ fun z hz => ?_
      repeat (any_goals (first | assumption | wp_step))
      exact h z hz
    | _ => exact hr.elim
/-- an array's items, a list's or a tuple's -/
theorem fill_ints {l : Addr} {us : List Value} {ns : List Int} (hh : A.handled = none) (hl : s.heap.IsList l us.toArray) (hi : IntsAre us ns) (hb : ns.length + 1 < scanBound) :
    Fill P w A s (.ref l) fun z => ∃ (h' : Heap) (tk c : Nat), z = { s with heap := h', toks := tk } ∧ SetR w h' s.heap.objs.size (fun j => decide (j ∈ ns)) c ∧ ∀ b o, s.heap.get? b = some o → h'.get? b = some o := by
  intro R hR
  have hz : us.toArray.size = ns.length := by
    have := IntsAre.length hi
    simpa using this
  refine codeAny_builtin F.entry_set_init ?_
  rw [Around.under_plainId F.called_set.init.plain _]
  have hlS : l < s.heap.objs.size := by
    obtain ⟨o, ho, _⟩ := hl
    exact Heap.lt_size ho
  have hl1 : (s.heap.push (newSet w)).IsList l us.toArray := hl.push _
  obtain ⟨⟨lc, ld, lt, lsl⟩, hol, hc, nl, hd⟩ := id hl1
  simp only at hc hd
  subst hc; subst hd
  have f1 := F.sub_list_set
  have f2 := F.sub_list_frozenset
  have f3 : (Value.type "list" == Value.type "dict") = false := by decide
  unfold Builtin.«set.__init__» noKeywords Builtin.Frozenset.updateFrom
  generalize hPI : pyIter = PI
  wp_walk
  subst hPI
  refine wpAny_pyIter_list hl1 (wpAny_bind (wpAny_runValue ?_))
  have sz : (s.heap.push (newSet w)).objs.size = s.heap.objs.size + 1 := Heap.size_push ..
  have n1 : l ≠ (s.heap.push (newSet w)).objs.size := by rw [sz]; exact Nat.ne_of_lt (Nat.lt_succ_of_lt hlS)
  have n2 : s.heap.objs.size ∉ [(s.heap.push (newSet w)).objs.size, l] := by
    rw [sz]
    simp only [List.mem_cons, List.not_mem_nil, or_false, not_or]
    exact ⟨Nat.ne_of_lt (Nat.lt_succ_self _), Nat.ne_of_gt hlS⟩
  have hh' : A.in1.in1.in1.handled = none := by simp [hh]
  have val : ∀ (i : Nat) (v : Value), us.toArray[i]? = some v → ∃ k t, ns[i]? = some k ∧ v = .int k t := fun i v hv => by
    have hin : i < ns.length := by rw [← hz]; exact (Array.getElem?_eq_some_iff.mp hv).1
    obtain ⟨t, e⟩ := IntsAre.int_at hi i v (by simpa using hv)
    exact ⟨ns[i], t, List.getElem?_eq_getElem hin, by rw [e, List.getD_eq_getElem?_getD, List.getElem?_eq_getElem hin]; rfl⟩
  have keep : ∀ b o, s.heap.get? b = some o → ((s.heap.push (newSet w)).push { cls := .type "list_iterator", data := .fields #[.ref l, .int 0 0] }).get? b = some o := fun b o e => Heap.get?_push_of_some _ (Heap.get?_push_of_some _ e)
  refine set_update_ints (Walks.list hh' _ l n1 us.toArray).toS s.heap.objs.size n2 ns hz hb val (us.toArray.size - 0) 0 _ (by omega) (Nat.zero_le _) ⟨⟨_, Heap.get?_push_size _ rfl, rfl, rfl⟩, hl1.push _⟩ ⟨0, Nat.le_refl 0, setR_new_at (Heap.get?_push_of_some _ (Heap.get?_push_size _ rfl))⟩ fun z c mv hc R' => ?_
  obtain ⟨h', g', d', tk, os'⟩ := z
  obtain rfl : g' = s.gens := mv.gens
  obtain rfl : d' = s.drawn := mv.drawn
  obtain rfl : os' = s.os := mv.os
  refine wpAny_pure (wpAny_pure (hR _ ⟨h', tk, c, rfl, R', fun b o e => ?_⟩))
  have hb0 : b < s.heap.objs.size := Heap.lt_size e
  refine mv.heap b o ?_ (keep b o e)
  simp only [List.mem_cons, List.not_mem_nil, or_false, not_or]
  exact ⟨Nat.ne_of_lt hb0, by rw [sz]; exact Nat.ne_of_lt (Nat.lt_succ_of_lt hb0)⟩
theorem fill_tups {l : Addr} {us : List Value} {ks : List (Addr × List Int)} (hh : A.handled = none) (hu : A.units + 64 < cLine) (hl : s.heap.IsList l us.toArray) (he : us = ks.map fun p => Value.ref p.1) (hk : ∀ p ∈ ks, IsT P w s.heap p.2 p.1) (lim : ks.length ≤ 76) :
    Fill P w A s (.ref l) fun z => ∃ (h' : Heap) (tk : Nat) (L : List (Addr × List Int)) (es : Array (Int × Value)) (ep : Nat) (t : SetTable), z = { s with heap := h', toks := tk } ∧ S0 P w h' s.heap.objs.size L es ep t ∧ Got ks ks.length L ∧ ∀ b o, s.heap.get? b = some o → h'.get? b = some o := by
  intro R hR
  have hz : us.toArray.size = ks.length := by rw [he]; simp
  refine codeAny_builtin F.entry_set_init ?_
  rw [Around.under_plainId F.called_set.init.plain _]
  have hlS : l < s.heap.objs.size := by
    obtain ⟨o, ho, _⟩ := hl
    exact Heap.lt_size ho
  have hl1 : (s.heap.push (newSet w)).IsList l us.toArray := hl.push _
  obtain ⟨⟨lc, ld, lt, lsl⟩, hol, hc, nl, hd⟩ := id hl1
  simp only at hc hd
  subst hc; subst hd
  have f1 := F.sub_list_set
  have f2 := F.sub_list_frozenset
  have f3 : (Value.type "list" == Value.type "dict") = false := by decide
  unfold Builtin.«set.__init__» noKeywords Builtin.Frozenset.updateFrom
  generalize hPI : pyIter = PI
  wp_walk
  subst hPI
  refine wpAny_pyIter_list hl1 (wpAny_bind (wpAny_runValue ?_))
  have sz : (s.heap.push (newSet w)).objs.size = s.heap.objs.size + 1 := Heap.size_push ..
  have n1 : l ≠ (s.heap.push (newSet w)).objs.size := by rw [sz]; exact Nat.ne_of_lt (Nat.lt_succ_of_lt hlS)
  have n2 : s.heap.objs.size ∉ [(s.heap.push (newSet w)).objs.size, l] := by
    rw [sz]
    simp only [List.mem_cons, List.not_mem_nil, or_false, not_or]
    exact ⟨Nat.ne_of_lt (Nat.lt_succ_self _), Nat.ne_of_gt hlS⟩
  have hh' : A.in1.in1.in1.handled = none := by simp [hh]
  have val : ∀ (i : Nat) (v : Value), us.toArray[i]? = some v → ∃ p, ks[i]? = some p ∧ v = .ref p.1 := fun i v hv => by
    rw [List.getElem?_toArray, he, List.getElem?_map] at hv
    obtain ⟨p, h1, h2⟩ := Option.map_eq_some_iff.mp hv
    exact ⟨p, h1, h2.symm⟩
  have off : ∀ b, s.heap.objs.size ≤ b → s.heap.get? b = none := fun b hb => by
    cases q : s.heap.get? b with
    | none => rfl
    | some o => exact absurd (Heap.lt_size q) (Nat.not_lt.mpr hb)
  have keep : ∀ b o, s.heap.get? b = some o → ((s.heap.push (newSet w)).push { cls := .type "list_iterator", data := .fields #[.ref l, .int 0 0] }).get? b = some o := fun b o e => Heap.get?_push_of_some _ (Heap.get?_push_of_some _ e)
  have units : A.in1.in1.in1.units ≤ A.units + 3 := by simp [Around.in1]
  refine fill_loop (Walks.list hh' _ l n1 us.toArray).toS hz lim val (old := s.heap) hk n2 (off _ (Nat.le_refl _)) (fun b hb => off b (by rw [List.mem_singleton.mp hb, sz]; omega)) (show A.in1.in1.in1.units < cLine by omega) (fun z L es ep t mv S g k => ?_)
    us.toArray.size 0 _ (by omega) ⟨⟨_, Heap.get?_push_size _ rfl, rfl, rfl⟩, hl1.push _⟩ keep (.inr rfl) ⟨[], #[], 0, _, s0_new (Heap.get?_push_of_some _ (Heap.get?_push_size _ rfl)), Got.zero ks⟩
  obtain ⟨h', g', d', tk, os'⟩ := z
  obtain rfl : g' = s.gens := mv.gens
  obtain rfl : d' = s.drawn := mv.drawn
  obtain rfl : os' = s.os := mv.os
  rw [hz] at g
  exact wpAny_pure (wpAny_pure (hR _ ⟨h', tk, L, es, ep, t, rfl, S, g, k⟩))
end
section
open PySem.W (AllAlike Sortable alike)
/-- without doubles -/
def dd {α : Type} [DecidableEq α] : List α → List α
  | [] => []
  | x :: xs => if x ∈ xs then dd xs else x :: dd xs
theorem mem_dd {α : Type} [DecidableEq α] {y : α} : ∀ xs : List α, y ∈ dd xs ↔ y ∈ xs
  | [] => Iff.rfl
  | x :: xs => by
    unfold dd
    by_cases h : x ∈ xs
    · rw [if_pos h, mem_dd xs, List.mem_cons]
      exact ⟨.inr, fun e => e.elim (fun e => e ▸ h) id⟩
    · rw [if_neg h, List.mem_cons, List.mem_cons, mem_dd xs]
theorem nodup_dd {α : Type} [DecidableEq α] : ∀ xs : List α, (dd xs).Nodup
  | [] => List.nodup_nil
  | x :: xs => by
    unfold dd
    by_cases h : x ∈ xs
    · rw [if_pos h]; exact nodup_dd xs
    · rw [if_neg h, List.nodup_cons, mem_dd]; exact ⟨h, nodup_dd xs⟩
section
variable {P : Program} {w : World} {A : Around} {E : Value → Shared → Prop} {s : Shared}
/-- the keys of a set stand once each -/
theorem setR_count {h : Heap} {a : Addr} {ns : List Int} {c : Nat} (R : SetR w h a (fun j => decide (j ∈ ns)) c) : c = (dd ns).length := by
  obtain ⟨o, es, ep, t, _, _, _, _, nd, hm, _, _, hn, _⟩ := R
  have e : (es.toList.map keyOf).Perm (dd ns) := (List.perm_ext_iff_of_nodup nd (nodup_dd ns)).mpr fun k => by
    rw [← hm k, mem_dd]
    exact decide_eq_true_iff
  have := e.length_eq
  rw [List.length_map, Array.length_toList] at this
  omega
theorem perm_back {α β : Type} {f : α → β} : ∀ {vs : List β} {l : List α}, vs.Perm (l.map f) → ∃ l' : List α, l'.Perm l ∧ l'.map f = vs
  | [], l, h => by
    have : l = [] := by simpa using h.length_eq.symm
    subst this
    exact ⟨[], .refl _, rfl⟩
  | v :: vs, l, h => by
    obtain ⟨q, hq, e⟩ := List.mem_map.mp (h.mem_iff.mp List.mem_cons_self)
    obtain ⟨x, y, rfl⟩ := List.append_of_mem hq
    have hp : (x ++ q :: y).Perm (q :: (x ++ y)) := List.perm_middle
    have h2 := h.trans (hp.map f)
    rw [List.map_cons, e] at h2
    obtain ⟨l', h3, h4⟩ := perm_back ((List.perm_cons v).mp h2)
    exact ⟨q :: l', (h3.cons q).trans hp.symm, by rw [List.map_cons, h4, e]⟩
theorem reads_items {h : Heap} {k : List Int} {us : List Value} (x : ItemsAre (intKind P w) k us) : ∃ as, ReadsAll h us (k.map PyData.int) as := by
  induction x with
  | nil => exact ⟨[], .nil⟩
  | @cons k0 v ks vs h1 _ ih =>
    obtain ⟨t, rfl⟩ := Value.isInt_shape h1
    obtain ⟨as, r⟩ := ih
    exact ⟨_, .cons (.int _ _) r⟩
theorem reads_isT {h : Heap} {k : List Int} {b : Addr} (x : IsT P w h k b) : ∃ as, Reads h (.ref b) (.tuple (k.map PyData.int)) as := by
  obtain ⟨o, items, n, ho, hc, hd, hi⟩ := x
  obtain ⟨as, r⟩ := reads_items (h := h) hi
  exact ⟨as, .tuple ho hc (by simpa using hd) r⟩
/-- Python's order of tuples of ints -/
theorem dataLe_tups {β : Type} (x : β → List Int) : PySem.W.dataLe false (fun b => PyData.tuple ((x b).map PyData.int)) = fun p q => decide (x p ≤ x q) := by
  funext p q
  have e : PySem.W.dataLt (.tuple ((x q).map PyData.int)) (.tuple ((x p).map PyData.int)) = decide (x q < x p) := by
    rw [PySem.W.dataLt_tuple]
    exact PySem.W.dataLt_ints (x q) (x p)
  refine (show PySem.W.dataLe false (fun b => PyData.tuple ((x b).map PyData.int)) p q = !PySem.W.dataLt _ _ from rfl).trans ?_
  rw [e]
  by_cases h : x q < x p
  · rw [decide_eq_true h, decide_eq_false fun r => List.not_lt.mpr r h]; rfl
  · rw [decide_eq_false h, decide_eq_true (List.not_lt.mp h)]; rfl
theorem alike_tups (a b : List Int) : alike (.tuple (a.map PyData.int)) (.tuple (b.map PyData.int)) = true := by
  simpa [alike] using PySem.W.alike_ints a b
theorem each_refs : ∀ {bs : List (Addr × List Int)} {vs : List Value}, PySem.W.EachIs (fun v (b : Addr × List Int) => v = Value.ref b.1) vs bs → vs = bs.map fun q => Value.ref q.1
  | [], _, .nil => rfl
  | _ :: _, _, .cons h t => by rw [List.map_cons, h, each_refs t]
/-- sorted(s), s a set of tuples of ints -/
theorem sorted_setD {a : Addr} {L : List (Addr × List Int)} {es : Array (Int × Value)} {ep : Nat} {t : SetTable} {Q : Value → Shared → Prop} (R : S0 P w s.heap a L es ep t) (hh : A.handled = none) (hu : A.units + 64 < cLine) (hne : ∀ p ∈ L, p.2 ≠ [])
    (hQ : ∀ z p (out : List Value) (c : Nat) (L' : List (Addr × List Int)), (∀ b o, s.heap.get? b = some o → z.heap.get? b = some o) → z.gens = s.gens → z.os = s.os → s.heap.objs.size ≤ p →
      z.heap.get? p = some (seqObj "list" out.toArray c) → out = L'.map (fun q => Value.ref q.1) → L'.Perm L → L'.Pairwise (fun q r => q.2 ≤ r.2) → Q (.ref p) z) :
    wpAny (model P w) A (call (.builtin "sorted") [.ref a]) Q E s := by
  obtain ⟨o, ho, hex, hd⟩ := R.at_
  refine call_function_entry kind_sorted plain_sorted entry_sorted (args_sorted1 _) ?_
  unfold Builtin.«sorted»
  refine wpAny_bind (m := checkCount "sorted" 1 1 _) (wpAny_pure ?_)
  have hsz := R.len
  have hfew := R.lim
  refine wpAny_bind (collect_set (A := A.in1) hh ⟨o, ho, hex.1, hd⟩ R.fit (by unfold scanBound; omega) R.tb.ris R.ld fun z vs keep hz hg hos pm => ?_)
  have rows : es.toList.map (·.2) = L.map fun q => Value.ref q.1 := by
    rw [R.row]
    simp [rowsOf, List.map_map, Function.comp_def]
  rw [rows] at pm
  obtain ⟨L1, p1, rfl⟩ := perm_back pm
  have hlen : L1.length ≤ 76 := by rw [p1.length_eq]; exact hfew
  refine wpAny_bind (wpAny_newList ?_ (by rw [List.length_map, sizeLine_eq]; omega))
  have hol : (z.heap.push (seqObj "list" (L1.map fun q => Value.ref q.1).toArray 0)).get? z.heap.objs.size = some (seqObj "list" (L1.map fun q => Value.ref q.1).toArray 0) := Heap.get?_push_size _ rfl
  have hrd : PySem.W.EachIs (fun v (b : Addr × List Int) => ∃ as, Reads (PySem.W.sortingHeap (z.heap.push (seqObj "list" (L1.map fun q => Value.ref q.1).toArray 0)) z.heap.objs.size (L1.map fun q => Value.ref q.1)) v (.tuple (b.2.map PyData.int)) as) (L1.map fun q => Value.ref q.1) L1 := by
    have gen : ∀ l : List (Addr × List Int), (∀ q ∈ l, q ∈ L) → ∀ h : Heap, (∀ b o, s.heap.get? b = some o → h.get? b = some o) → PySem.W.EachIs (fun v (b : Addr × List Int) => ∃ as, Reads h v (.tuple (b.2.map PyData.int)) as) (l.map fun q => Value.ref q.1) l := by
      intro l
      induction l with
      | nil => exact fun _ _ _ => .nil
      | cons q l ih => exact fun hq h k => .cons (reads_isT (P := P) (w := w) (isT_keep (R.tp q (hq q List.mem_cons_self)) fun b o e => k b o e)) (ih (fun r hr => hq r (List.mem_cons_of_mem _ hr)) h k)
    refine gen L1 (fun q hq => p1.mem_iff.mp hq) _ fun b o e => ?_
    have e1 := keep b o e
    exact PySem.W.sortingHeap_old (Nat.ne_of_lt (Heap.lt_size e1)) (Heap.get?_push_of_some _ e1)
  have hrf : PySem.W.EachIs (fun v (b : Addr × List Int) => v = Value.ref b.1) (L1.map fun q => Value.ref q.1) L1 := by
    have gen : ∀ l : List (Addr × List Int), PySem.W.EachIs (fun v (b : Addr × List Int) => v = Value.ref b.1) (l.map fun q => Value.ref q.1) l := fun l => by
      induction l with
      | nil => exact .nil
      | cons q l ih => exact .cons rfl ih
    exact gen L1
  have hal : AllAlike (L1.map fun b => PyData.tuple (b.2.map PyData.int)) := AllAlike.of (enc := fun b : Addr × List Int => PyData.tuple (b.2.map PyData.int)) fun b c => alike_tups _ _
  have hk : Sortable (L1.map fun b => PyData.tuple (b.2.map PyData.int)) := .inl fun d hd => by
    obtain ⟨b, hb, rfl⟩ := List.mem_map.mp hd
    have := hne b (p1.mem_iff.mp hb)
    cases e : b.2 with
    | nil => exact absurd e this
    | cons x r => exact ⟨_, _, by rw [List.map_cons]⟩
  have hdp : ∀ b : Addr × List Int, (PyData.tuple (b.2.map PyData.int)).depth = 1 := fun b => by
    have := PySem.W.depth_ints b.2
    simp [PyData.depth, this]
  have S : PySem.W.SortsAt P w A.in1.in1 { z with heap := PySem.W.sortingHeap (z.heap.push (seqObj "list" (L1.map fun q => Value.ref q.1).toArray 0)) z.heap.objs.size (L1.map fun q => Value.ref q.1) } _ (L1.map fun q => Value.ref q.1) :=
    PySem.W.SortsAt.data (s := { z with heap := PySem.W.sortingHeap (z.heap.push (seqObj "list" (L1.map fun q => Value.ref q.1).toArray 0)) z.heap.objs.size (L1.map fun q => Value.ref q.1) }) (PySem.W.each_map (R := fun v d => ∃ as, Reads _ v d as) (fun b : Addr × List Int => PyData.tuple (b.2.map PyData.int)) hrd) hal hk fun d hd => by
      obtain ⟨b, _, rfl⟩ := List.mem_map.mp hd
      rw [hdp b]
      have : A.in1.in1.units ≤ A.units + 2 := by simp [Around.in1]
      omega
  have so := PySem.W.sortVals_data (R := fun v (b : Addr × List Int) => v = Value.ref b.1) (enc := fun b : Addr × List Int => PyData.tuple (b.2.map PyData.int)) false hrf hrd hal
  refine wpAny_bind (wpAny_holding (wpAny_call_entry slot_list_sort ⟨_, hol, rfl⟩ entry_list_sort (PySem.W.list_sort_vals (s := { z with heap := z.heap.push (seqObj "list" (L1.map fun q => Value.ref q.1).toArray 0) }) hol S (by rw [List.length_map, sizeLine_eq]; omega) ⟨_, rfl, ?_⟩) (args_list_sort _)))
  obtain ⟨c, hc⟩ := sortedHeap_at (vs := L1.map fun q => Value.ref q.1) (out := (PySem.W.sortVals (PySem.W.dataKind _ (L1.map fun b => PyData.tuple (b.2.map PyData.int))) false (L1.map fun q => Value.ref q.1) (L1.map fun q => Value.ref q.1)).toArray) hol
  rw [dataLe_tups (fun b : Addr × List Int => b.2)] at so
  refine wpAny_pure ⟨_, rfl, hQ _ z.heap.objs.size _ c (L1.mergeSort fun p q => decide (p.2 ≤ q.2)) (fun b u e => ?_) hg hos hz hc ?_ ((List.mergeSort_perm _ _).trans p1) ?_⟩
  · have q := keep b u e
    have hlt := Heap.lt_size q
    refine (sortedHeap_old (Nat.ne_of_lt hlt) (by rw [size_push']; exact Nat.lt_succ_of_lt hlt)).trans ?_
    exact Heap.get?_push_of_some _ q
  · exact each_refs so
  · have := List.pairwise_mergeSort (le := fun p q : Addr × List Int => decide (p.2 ≤ q.2)) (fun a b c h1 h2 => decide_eq_true (List.le_trans (of_decide_eq_true h1) (of_decide_eq_true h2))) (fun a b => by
      rcases List.le_total a.2 b.2 with h | h
      · simp [h]
      · simp [h]) L1
    exact this.imp fun h => of_decide_eq_true h
end
section
variable {X : Cx}
/-- set(xs), xs a list of ints -/
def rSetI (K : PySem.W.Frag) (w : World) : List V → Hp → VK → Prop := fun xs H Q => ∃ (l : Addr) (ns : List Int), xs = [V.ref l] ∧ SqL K H l (ns.map V.int) ∧ ns.length < 4000 ∧
  ∀ a, H a = none → Q (.ref a) (upd H a (SetO w a (fun j => decide (j ∈ ns)) (dd ns).length))
theorem cr_setI (hc : X.calm = true) : CallR X (.type "set") (rSetI X.K X.w) := by
  intro pins s σ H xs us Q I r h
  obtain ⟨l, ns, rfl, hl, hb, q⟩ := h
  rw [Vals.ref1 r]
  obtain ⟨its, rv, pl, _⟩ := I.list hl
  have hn : H s.heap.objs.size = none := I.hok.fresh (Nat.le_refl _)
  refine set_by (fill_ints (ns := ns) (I.ok.hd hc) pl.isList (ints_of_vals rv) (by unfold scanBound; omega)) fun z hz => ?_
  obtain ⟨h', tk, c, rfl, R, k⟩ := hz
  obtain rfl := setR_count R
  exact ⟨.ref s.heap.objs.size, upd H s.heap.objs.size _, I.laid (t' := tk) k (Nat.le_refl _) (setO_new R), rfl, q _ hn⟩
/-- sorted(s), s a set of tuples of ints -/
def rSortedTD (K : PySem.W.Frag) (P : Program) (w : World) : List V → Hp → VK → Prop := fun vs H Q => ∃ (a : Addr) (L : List (Addr × List Int)), vs = [V.ref a] ∧ H a = some (SetUO P w a L) ∧ (∀ p ∈ L, SqT K H p.1 (p.2.map V.int)) ∧ (∀ p ∈ L, p.2 ≠ []) ∧
  ∀ (L' : List (Addr × List Int)) (p : Addr), L'.Perm L → (L'.map (·.2)).Nodup → L'.Pairwise (fun q r => q.2 ≤ r.2) → H p = none → Q (.ref p) (upd H p (.lst (L'.map fun q => V.ref q.1)))
theorem cr_sortedTD (hc : X.calm = true) (hu : X.A.units + 64 < cLine) : CallR X (.builtin "sorted") (rSortedTD X.K X.prog X.w) := by
  intro pins s σ H vs us Q I r h
  obtain ⟨a, L, rfl, ha, hk, hne, q⟩ := h
  obtain ⟨es, ep, t, R⟩ := SU0.back (I.hok a _ ha).1 fun p hp => I.isT (hk p hp)
  rw [Vals.ref1 r]
  refine sorted_setD R (I.ok.hd hc) hu hne fun z p out c L' k g o hp hg hout pm pw => ?_
  subst hout
  have hfew : L'.length ≤ 76 := by rw [pm.length_eq]; exact R.lim
  have hn : H p = none := I.hok.fresh hp
  have J : Inv X pins σ (upd H p (.lst (L'.map fun q => V.ref q.1))) { s with heap := z.heap, gens := z.gens, drawn := z.drawn, toks := z.toks } :=
    I.call (ch := []) (Un.laid k hp hn) (I.hok.laid k hp ⟨by rw [List.length_map, sizeLine_eq]; omega, _, c, vals_of_refs L', hg⟩) (by rw [g]; exact I.bare) (fun _ x => nomatch x)
  obtain ⟨zh, zg, zd, zt, zo⟩ := z
  obtain rfl : zo = s.os := o
  exact ⟨.ref p, _, J, rfl, q L' p pm ((pm.map (·.2)).nodup_iff.mpr R.one) pw hn⟩
/-- set(xs), xs a list of tuples of ints -/
def rSetU (K : PySem.W.Frag) (P : Program) (w : World) : List V → Hp → VK → Prop := fun xs H Q => ∃ (l : Addr) (ks : List (Addr × List Int)), xs = [V.ref l] ∧ SqL K H l (ks.map fun p => V.ref p.1) ∧ (∀ p ∈ ks, SqT K H p.1 (p.2.map V.int)) ∧ ks.length ≤ 76 ∧
  ∀ a L, H a = none → (∀ p ∈ L, p ∈ ks) → (∀ p ∈ ks, p.2 ∈ L.map (·.2)) → Q (.ref a) (upd H a (SetUO P w a L))
theorem cr_setU (hc : X.calm = true) (hu : X.A.units + 64 < cLine) : CallR X (.type "set") (rSetU X.K X.prog X.w) := by
  intro pins s σ H xs us Q I r h
  obtain ⟨l, ks, rfl, hl, hk, lim, q⟩ := h
  rw [Vals.ref1 r]
  obtain ⟨its, rv, pl, _⟩ := I.list hl
  have hn : H s.heap.objs.size = none := I.hok.fresh (Nat.le_refl _)
  refine set_by (fill_tups (P := X.prog) (w := X.w) (ks := ks) (I.ok.hd hc) hu pl.isList (refs_of_vals rv) (fun p hp => I.isT (hk p hp)) lim) fun z hz => ?_
  obtain ⟨h', tk, L, es, ep, t, rfl, S, g, k⟩ := hz
  exact ⟨.ref s.heap.objs.size, upd H s.heap.objs.size _, I.laid (t' := tk) k (Nat.le_refl _) (setUO_new S.su), rfl, q _ L hn (fun p hp => List.mem_of_mem_take (g.sub p hp)) fun p hp => g.all p (by rw [List.take_length]; exact hp)⟩
end
end
section
variable {X : Cx}
/-- the rows of ints that data are -/
def rowsD : List D → Option (List (List Int))
  | [] => some []
  | .tuple ds :: es => (intsOf ds).bind fun ns => (rowsD es).map fun r => ns :: r
  | _ :: _ => none
def tupD (ns : List Int) : D := .tuple (ns.map PyData.int)
theorem rowsD_eq : ∀ {ds : List D} {ls : List (List Int)}, rowsD ds = some ls → ds = ls.map tupD
  | [], _, h => by cases h; rfl
  | .tuple xs :: es, ls, h => by
    obtain ⟨ns, h1, h⟩ := Option.bind_eq_some_iff.mp h
    obtain ⟨r, h2, h⟩ := Option.map_eq_some_iff.mp h
    subst h
    rw [intsOf_eq h1, rowsD_eq h2]
    rfl
  | .none :: _, _, h => by cases h
  | .bool _ :: _, _, h => by cases h
  | .int _ :: _, _, h => by cases h
  | .str _ :: _, _, h => by cases h
  | .list _ :: _, _, h => by cases h
  | .dict _ :: _, _, h => by cases h
theorem rowsD_map : ∀ ls : List (List Int), rowsD (ls.map tupD) = some ls
  | [] => rfl
  | l :: ls => by
    show (intsOf (l.map PyData.int)).bind _ = _
    rw [intsOf_map, Option.bind_some, rowsD_map ls]
    rfl
/-- sorted, without doubles -/
def ssI (ns : List Int) : List Int := (dd ns).mergeSort fun a b => decide (a ≤ b)
def ssT (ls : List (List Int)) : List (List Int) := (dd ls).mergeSort fun a b => decide (a ≤ b)
theorem strict_one {α : Type} {r : α → α → Prop} (as : ∀ a b, r a b → r b a → False) : ∀ {xs ys : List α}, xs.Pairwise r → ys.Pairwise r → (∀ z, z ∈ xs ↔ z ∈ ys) → xs = ys
  | [], [], _, _, _ => rfl
  | [], y :: ys, _, _, h => by have := (h y).mpr List.mem_cons_self; cases this
  | x :: xs, [], _, _, h => by have := (h x).mp List.mem_cons_self; cases this
  | x :: xs, y :: ys, h1, h2, h => by
    obtain ⟨a1, a2⟩ := List.pairwise_cons.mp h1
    obtain ⟨b1, b2⟩ := List.pairwise_cons.mp h2
    have e : x = y := by
      rcases List.mem_cons.mp ((h x).mp List.mem_cons_self) with e | e
      · exact e
      · rcases List.mem_cons.mp ((h y).mpr List.mem_cons_self) with e' | e'
        · exact e'.symm
        · exact (as x y (a1 y e') (b1 x e)).elim
    subst e
    have ne : ∀ z, r x z → z ≠ x := fun z hz e => by subst e; exact as z z hz hz
    rw [strict_one as a2 b2 fun z => ⟨fun hz => ?_, fun hz => ?_⟩]
    · exact (List.mem_cons.mp ((h z).mp (List.mem_cons_of_mem _ hz))).resolve_left (ne z (a1 z hz))
    · exact (List.mem_cons.mp ((h z).mpr (List.mem_cons_of_mem _ hz))).resolve_left (ne z (b1 z hz))
theorem le_strict {α : Type} {le : α → α → Prop} {xs : List α} (h : xs.Pairwise le) (n : xs.Nodup) : xs.Pairwise fun a b => le a b ∧ a ≠ b := by
  induction xs with
  | nil => exact .nil
  | cons x xs ih =>
    obtain ⟨a1, a2⟩ := List.pairwise_cons.mp h
    obtain ⟨b1, b2⟩ := List.nodup_cons.mp n
    exact List.pairwise_cons.mpr ⟨fun y hy => ⟨a1 y hy, fun e => b1 (e ▸ hy)⟩, ih a2 b2⟩
theorem ssI_mem {k : Int} (ns : List Int) : k ∈ ssI ns ↔ k ∈ ns := by
  unfold ssI
  rw [(List.mergeSort_perm _ _).mem_iff, mem_dd]
theorem ssI_sorted (ns : List Int) : (ssI ns).Pairwise (· < ·) := by
  have h := List.pairwise_mergeSort (le := fun a b : Int => decide (a ≤ b)) (fun a b c h1 h2 => decide_eq_true (Int.le_trans (of_decide_eq_true h1) (of_decide_eq_true h2))) (fun a b => by
    rcases Int.le_total a b with h | h
    · simp [h]
    · simp [h]) (dd ns)
  have n : (ssI ns).Nodup := ((List.mergeSort_perm _ _).nodup_iff).mpr (nodup_dd ns)
  exact (le_strict h n).imp fun ⟨h1, h2⟩ => by
    have := of_decide_eq_true h1
    omega
theorem ssT_mem {k : List Int} (ls : List (List Int)) : k ∈ ssT ls ↔ k ∈ ls := by
  unfold ssT
  rw [(List.mergeSort_perm _ _).mem_iff, mem_dd]
theorem ssT_sorted (ls : List (List Int)) : (ssT ls).Pairwise fun a b => a ≤ b ∧ a ≠ b := by
  have h := List.pairwise_mergeSort (le := fun a b : List Int => decide (a ≤ b)) (fun a b c h1 h2 => decide_eq_true (List.le_trans (of_decide_eq_true h1) (of_decide_eq_true h2))) (fun a b => by
    rcases List.le_total a b with h | h
    · simp [h]
    · simp [h]) (dd ls)
  have n : (ssT ls).Nodup := ((List.mergeSort_perm _ _).nodup_iff).mpr (nodup_dd ls)
  exact (le_strict h n).imp fun ⟨h1, h2⟩ => ⟨of_decide_eq_true h1, h2⟩
theorem ssI_one {ns ms : List Int} (h : ms.Pairwise (· < ·)) (hm : ∀ k, k ∈ ms ↔ k ∈ ns) : ms = ssI ns :=
  strict_one (fun a b h1 h2 => by omega) h (ssI_sorted ns) fun z => by rw [hm, ssI_mem]
theorem ssT_one {ls ms : List (List Int)} (h : ms.Pairwise fun a b => a ≤ b ∧ a ≠ b) (hm : ∀ k, k ∈ ms ↔ k ∈ ls) : ms = ssT ls :=
  strict_one (fun a b h1 h2 => h1.2 (List.le_antisymm h1.1 h2.1)) h (ssT_sorted ls) fun z => by rw [hm, ssT_mem]
/-- sorted(set(..)) of ints, of tuples of ints -/
def dSS (d : D) : Option (List D) := match d with
  | .list ds => match intsOf ds with
    | some ns => if ns.length < 4000 ∧ (dd ns).length < 64 then some ((ssI ns).map PyData.int) else none
    | none => (rowsD ds).bind fun ls => if ls.length < 76 ∧ (ls.all fun l => !l.isEmpty) = true then some ((ssT ls).map tupD) else none
  | _ => none
def rTwo (r1 r2 : List V → Hp → VK → Prop) : List V → Hp → VK → Prop := fun vs H Q => r1 vs H fun x H2 => r2 [x] H2 Q
theorem dd_le {α : Type} [DecidableEq α] : ∀ xs : List α, (dd xs).length ≤ xs.length
  | [] => Nat.le_refl _
  | x :: xs => by
    have := dd_le xs
    unfold dd
    split
    · rw [List.length_cons]; omega
    · rw [List.length_cons, List.length_cons]; omega
end
theorem upd_none {H : Hp} {a p : Addr} {o : HO} (h : upd H a o p = none) : H p = none ∧ p ≠ a := by
  by_cases e : p = a
  · subst e; rw [upd_same] at h; cases h
  · rw [upd_ne e] at h; exact ⟨h, e⟩
theorem rpl_tups {G : Hp} : ∀ {ls : List (List Int)} {ws : List V}, RpL G ws (ls.map tupD) → ∃ ks : List (Addr × List Int), ws = ks.map (fun p => V.ref p.1) ∧ ks.map (·.2) = ls ∧ ∀ p ∈ ks, Tu G p.1 (p.2.map V.int)
  | [], _, h => by cases h; exact ⟨[], rfl, rfl, fun _ h => nomatch h⟩
  | l :: ls, _, h => by
    cases h with
    | cons a b =>
      obtain ⟨ks, rfl, h2, h3⟩ := rpl_tups b
      cases a with
      | @tup p vs ds hp r =>
        obtain rfl := RpL.ints r
        refine ⟨(p, l) :: ks, rfl, by rw [List.map_cons, h2], fun q hq => ?_⟩
        rcases List.mem_cons.mp hq with rfl | hq
        · exact hp
        · exact h3 q hq
theorem rpl_ofTups {G : Hp} : ∀ {ks : List (Addr × List Int)}, (∀ p ∈ ks, Tu G p.1 (p.2.map V.int)) → RpL G (ks.map fun p => V.ref p.1) ((ks.map (·.2)).map tupD)
  | [], _ => .nil
  | p :: ks, h => .cons (.tup (h p List.mem_cons_self) RpL.ofInts) (rpl_ofTups fun q hq => h q (List.mem_cons_of_mem _ hq))
theorem cd_ss {K : PySem.W.Frag} {P : Program} {w : World} : CallDL (rTwo (fun vs H Q => rSetI K w vs H Q ∨ rSetU K P w vs H Q) (fun vs H Q => rSortedSet w vs H Q ∨ rSortedTD K P w vs H Q)) (F1 dSS) := by
  intro G H vs ds z Q gh r hF k
  cases r with
  | nil => cases hF
  | cons a b =>
    cases b with
    | cons _ _ => cases hF
    | nil =>
      cases a with
      | @lst l ws es hp r =>
        have hF : dSS (.list es) = some z := hF
        unfold dSS at hF
        cases hi : intsOf es with
        | some ns =>
          simp only [hi] at hF
          by_cases h : ns.length < 4000 ∧ (dd ns).length < 64
          · rw [if_pos h] at hF
            cases hF
            obtain rfl := intsOf_eq hi
            obtain rfl := RpL.ints r
            refine .inl ⟨l, ns, rfl, SqL.of (gh _ _ hp), h.1, fun a ha => .inl ⟨a, _, _, rfl, upd_same, h.2, fun ms p h1 h2 h3 hpn => ?_⟩⟩
            obtain ⟨g1, s1⟩ := grow_own gh ha (SetO w a (fun j => decide (j ∈ ns)) (dd ns).length)
            obtain ⟨g2, s2⟩ := grow_own s1 hpn (.lst (ms.map V.int))
            obtain ⟨hpn', _⟩ := upd_none hpn
            have e : ms = ssI ns := ssI_one h1 fun k => by rw [h2 k]; exact decide_eq_true_iff
            refine k p _ G _ (g1.trans (fun _ h => h.elim) g2) s2 hpn' (gh.free hpn') upd_same ?_
            rw [e]
            exact RpL.ofInts
          · rw [if_neg h] at hF; cases hF
        | none =>
          simp only [hi] at hF
          obtain ⟨ls, h1, h2⟩ := Option.bind_eq_some_iff.mp hF
          by_cases h : ls.length < 76 ∧ (ls.all fun l => !l.isEmpty) = true
          · rw [if_pos h] at h2
            cases h2
            obtain rfl := rowsD_eq h1
            obtain ⟨ks, rfl, rfl, hk⟩ := rpl_tups r
            refine .inr ⟨l, ks, rfl, SqL.of (gh _ _ hp), fun p hp => (hk p hp).sqm gh, by have := h.1; rw [List.length_map] at this; omega, fun a L ha hsub hall => .inr ⟨a, L, rfl, upd_same, fun p hpL => ?_, fun p hpL => ?_, fun L' p pm nd pw hpn => ?_⟩⟩
            · obtain ⟨o, ho, e⟩ := (hk p (hsub p hpL)).mono gh
              exact Tu.sq ⟨o, ho, by rw [upd_ne (ne_of_none e ha)]; exact e⟩
            · have := List.all_eq_true.mp h.2 p.2 (List.mem_map_of_mem (hsub p hpL))
              intro e
              rw [e] at this
              cases this
            · obtain ⟨g1, s1⟩ := grow_own gh ha (SetUO P w a L)
              obtain ⟨g2, s2⟩ := grow_own s1 hpn (.lst (L'.map fun q => V.ref q.1))
              obtain ⟨hpn', _⟩ := upd_none hpn
              have e : L'.map (·.2) = ssT (ks.map (·.2)) := by
                refine ssT_one ?_ fun k => ?_
                · refine le_strict (le := fun a b => a ≤ b) (List.pairwise_map.mpr pw) nd
                · constructor
                  · intro hm
                    obtain ⟨q, hq, rfl⟩ := List.mem_map.mp hm
                    exact List.mem_map_of_mem (hsub q (pm.mem_iff.mp hq))
                  · intro hm
                    obtain ⟨q, hq, rfl⟩ := List.mem_map.mp hm
                    obtain ⟨q', hq', e⟩ := List.mem_map.mp (hall q hq)
                    rw [← e]
                    exact List.mem_map_of_mem (pm.mem_iff.mpr hq')
              refine k p _ G _ (g1.trans (fun _ h => h.elim) g2) s2 hpn' (gh.free hpn') upd_same ?_
              rw [← e]
              exact rpl_ofTups fun q hq => hk q (hsub q (pm.mem_iff.mp hq))
          · rw [if_neg h] at h2; cases h2
      | _ => cases hF
section
variable {X : Cx} {R : Res} {ρ : List Cell} {e : Expr} {n : Nat} {x y : Str} {id T : String} {p p2 pos pos2 : Pos} {r1 r2 : List V → Hp → VK → Prop}
theorem jl_two {F : List D → Option (List D)} {Ts : M (List D)} (hr1 : CallR X (.type T) r1) (hr2 : CallR X (.builtin id) r2) (hF : CallDL (rTwo r1 r2) F) (hm : X.mg x = none) (hv : bootBuiltins x = some (.type T)) (hm2 : X.mg y = none) (hv2 : bootBuiltins y = some (.builtin id)) (ha : JA X R ρ [e] n Ts)
    (hg : Gl X x := by rfl) (hn : x ≠ "__name__" := by decide) (hdb : (x == ("__debug__" : Str)) = false := by decide) (hg2 : Gl X y := by rfl) (hn2 : y ≠ "__name__" := by decide) (hdb2 : (y == ("__debug__" : Str)) = false := by decide)
    (he : starEach [e] X.env = (false, eval e X.env) :: starEach [] X.env := by rfl) (hpl : (backTo pos2 (starEach [] X.env)).any (·.1) = false := by rfl)
    (he2 : starEach [.Call (.Name x p2) [e] [] pos2] X.env = (false, eval (.Call (.Name x p2) [e] [] pos2) X.env) :: starEach [] X.env := by rfl) (hpl2 : (backTo pos (starEach [] X.env)).any (·.1) = false := by rfl) :
    JL X R ρ (.Call (.Name y p) [.Call (.Name x p2) [e] [] pos2] [] pos) (fun q => Ts fun ds => lift (F ds) q) :=
  PE.imp (pe_callB hr2 hg2 hm2 hv2 (pa_cons (pe_callTy hr1 hg hm hv ha hn hdb he hpl) pa_nil he2) hn2 hdb2 he2 hpl2) (call_readL hF)
end
section
variable {X : Cx} {R : Res} {ρ : List Cell} {e a b : Expr} {n : Nat} {x y : Str} {id T : String} {p p2 pos pos2 : Pos} {r1 r2 : List V → Hp → VK → Prop}
theorem jle_two {F : List D → Option (List D)} {os : Option (List D)} (hr1 : CallR X (.type T) r1) (hr2 : CallR X (.builtin id) r2) (hF : CallDL (rTwo r1 r2) F) (hm : X.mg x = none) (hv : bootBuiltins x = some (.type T)) (hm2 : X.mg y = none) (hv2 : bootBuiltins y = some (.builtin id)) (ha : JAE X R ρ [e] n os)
    (hg : Gl X x := by rfl) (hn : x ≠ "__name__" := by decide) (hdb : (x == ("__debug__" : Str)) = false := by decide) (hg2 : Gl X y := by rfl) (hn2 : y ≠ "__name__" := by decide) (hdb2 : (y == ("__debug__" : Str)) = false := by decide)
    (he : starEach [e] X.env = (false, eval e X.env) :: starEach [] X.env := by rfl) (hpl : (backTo pos2 (starEach [] X.env)).any (·.1) = false := by rfl)
    (he2 : starEach [.Call (.Name x p2) [e] [] pos2] X.env = (false, eval (.Call (.Name x p2) [e] [] pos2) X.env) :: starEach [] X.env := by rfl) (hpl2 : (backTo pos (starEach [] X.env)).any (·.1) = false := by rfl) :
    JLE X R ρ (.Call (.Name y p) [.Call (.Name x p2) [e] [] pos2] [] pos) (os.bind F) := (jl_two hr1 hr2 hF hm hv hm2 hv2 ha hg hn hdb hg2 hn2 hdb2 he hpl he2 hpl2).imp fun _ _ => liftF
theorem cr_setAny {k : Nat} (B : Bx X k) : CallR X (.type "set") (fun vs H Q => rSetI X.K X.w vs H Q ∨ rSetU X.K X.prog X.w vs H Q) := CallR.or (cr_setI B.hc) (cr_setU B.hc B.u64)
theorem cr_sortSet {k : Nat} (B : Bx X k) : CallR X (.builtin "sorted") (fun vs H Q => rSortedSet X.w vs H Q ∨ rSortedTD X.K X.prog X.w vs H Q) := CallR.or (cr_sortedSet B.hc) (cr_sortedTD B.hc B.u64)
theorem je_glob {i : Int} {t : Tok} (hm : X.mg x = some (.int i t)) (hg : Gl X x := by rfl) (hd : (x == ("__debug__" : Str)) = false := by decide) : JE X R ρ (.Name x pos) (some (.int i)) :=
  PE.imp (pe_glob (v := .int i) hg hm ⟨t, rfl⟩ hd) fun _ H _ ⟨G, m, _, S, h, c⟩ => c _ _ G H m S (Grow.refl _ _ _) (.int i) (lift_some' h)
def OpDL (r : R2) (f : D → D → Option (List D)) : Prop := ∀ (G H : Hp) (x y : V) (d e : D) (z : List D) (Q : VK), Same G H → Rp G x d → Rp G y e → f d e = some z →
  (∀ p ws G' H', Grow (fun _ => False) G H G' H' → Same G' H' → H p = none → G' p = none → H' p = some (.lst ws) → RpL G' ws z → Q (.ref p) H') → r x y H Q
theorem jle_op {op : Operator} {r : R2} {f : D → D → Option (List D)} {oa ob : Option D} (hr : OpR X (binaryOp op) r) (ho : OpDL r f) (ha : JE X R ρ a oa) (hb : JE X R ρ b ob) : JLE X R ρ (.BinOp a op b pos) (C2 f oa ob) := by
  refine PE.imp (pe_op hr ha hb) fun σ H Q ⟨G, m, q, S, t, c⟩ => ?_
  obtain ⟨z, hz, q1⟩ := t
  obtain ⟨xa, h1, hz⟩ := Option.bind_eq_some_iff.mp hz
  obtain ⟨xb, h2, hz⟩ := Option.bind_eq_some_iff.mp hz
  refine ⟨G, m, fun d m1 => d = xa ∧ m1 = m, S, ⟨xa, h1, rfl, rfl⟩, fun v d G1 H1 m1 S1 g1 r1 e1 => ?_⟩
  obtain ⟨rfl, rfl⟩ := e1
  refine ⟨G1, m1, fun d m2 => d = xb ∧ m2 = m1, S1, ⟨xb, h2, rfl, rfl⟩, fun w e G2 H2 m2 S2 g2 r2 e2 => ?_⟩
  obtain ⟨rfl, rfl⟩ := e2
  refine ho G2 H2 v w d e z Q S2.gh (r1.mono g2.gg) r2 hz fun p ws G3 H3 g3 s3 hp gp hp3 r3 => ?_
  obtain ⟨S3, g3'⟩ := S2.growS g3 s3
  exact c p ws z G3 H3 m2 S3 ((g1.trans S1.vh g2).trans S2.vh g3') (free_of (g1.trans S1.vh g2) S2.vh hp) gp hp3 r3 q1
def dRepL : D → D → Option (List D)
  | .list xs, .int k => if decide (-(2 ^ 63) ≤ k ∧ k < 2 ^ 63 ∧ xs.length * k.toNat ≤ sizeLine) = true then some (List.replicate k.toNat xs).flatten else none
  | _, _ => none
theorem od_repL : OpDL rRep dRepL := by
  intro G H x y d e z Q gh rx ry hf k
  cases rx with
  | @lst p vs ds hp r =>
    cases ry with
    | int n =>
      simp only [dRepL, Option.ite_none_right_eq_some, Option.some.injEq, decide_eq_true_eq] at hf
      obtain ⟨⟨h1, h2, h3⟩, rfl⟩ := hf
      refine ⟨p, n, vs, rfl, rfl, gh _ _ hp, h1, h2, by rw [r.length]; exact h3, fun q hq => ?_⟩
      obtain ⟨g, s⟩ := grow_own gh hq (.lst (List.replicate n.toNat vs).flatten)
      exact k q _ G _ g s hq (gh.free hq) upd_same (rep_rp r _)
    | _ => cases hf
  | _ => cases hf
end
end Dl

set_option Elab.async false
set_option linter.all false
set_option autoImplicit false
set_option maxRecDepth 100000
set_option maxHeartbeats 1000000
namespace Dl
open PySem L2
@[irreducible] def m__law_web (n1 pairs2 : D) : Option (D) :=
  ((consO (some n1) (consO (C1 dTup ((C1 dSS ((lcO ((some pairs2).bind dItems) fun d => un2 d fun a3 b4 => turnO ((b2 dNe (some a3) (some b4)).bind asB) ((consO (C2 dMin2 (some a3) (some b4)) (consO (C2 dMax2 (some a3) (some b4)) (some []))).map PyData.tuple)).map PyData.list)).map PyData.list)) (some []))).map PyData.tuple)
@[irreducible] def m__law_draw_web (low1 high2 : D) : M D := fun q =>
  ((consDM (op2 dAdd (lift (some low1)) (drawM (consM (lift (b2 dAdd (b2 dSub (some high2) (some low1)) (some (PyData.int 1)))) nilM) (G1 m__law_take))) (consDM (drawM (consM (lift (some (PyData.int 9))) nilM) (G1 m__law_take)) nilCM)) (cel2M (fun c4 c6 => (onDM (fun n3 => (onDM (fun way5 => ((consDM (drawM (consM (lift (some n3)) nilM) (G1 m__law_draw_order)) (consLM (lift (some [])) nilCM)) (cel2M (fun c8 c10 => (onDM (fun order7 => (onLM (fun pairs9 => (ifK (lift ((b2 dEq (some way5) (some (PyData.int 0))).bind asB)) ((lstM (lcM (appM (consM (drawM (consM (lift (b2 dAdd (some n3) (some (PyData.int 1)))) nilM) (G1 m__law_take)) nilM) dRange) fun k12 => turnM (lift (some true)) (tupM (consM (drawM (consM (lift (some n3)) nilM) (G1 m__law_take)) (consM (drawM (consM (lift (some n3)) nilM) (G1 m__law_take)) nilM))))) fun pairs11 => ((lift (C2 m__law_web (some n3) (some pairs11))) q)) (ifK (lift ((b2 (dIn false) (some way5) ((consO (some (PyData.int 2)) (consO (some (PyData.int 3)) (some []))).map PyData.list)).bind asB)) ((lift (b2 dAdd ((lcO (C2 (fun x y => dRange [x, y]) (b2 dSub (some (PyData.int 4)) (some way5)) (some n3)) fun k14 => turnO (some true) ((consO (b2 dIx (some order7) (b2 dSub (some k14) (some (PyData.int 1)))) (consO (b2 dIx (some order7) (some k14)) (some []))).map PyData.tuple)).map PyData.list) ((consO ((consO (b2 dIx (some order7) (some (PyData.int 0))) (consO (b2 dIx (some order7) (b2 dMul (some (PyData.int 1)) (C1 dInt (b2 dGt (some n3) (some (PyData.int 1)))))) (some []))).map PyData.tuple) (some [])).map PyData.list))) fun pairs13 => ((lift (C2 m__law_web (some n3) (b2 dAdd (some pairs13) ((C2 dRepL ((consO ((consO (b2 dIx (some order7) (some (PyData.int 0))) (consO (b2 dIx (some order7) (b2 dSub (some n3) (some (PyData.int 1)))) (some []))).map PyData.tuple) (some [])).map PyData.list) (b2 dSub (some way5) (some (PyData.int 2)))).map PyData.list)))) q)) (ifK (lift ((b2 dEq (some way5) (some (PyData.int 4))).bind asB)) ((lift (C2 m__law_web (some n3) ((lcO ((some order7).bind dItems) fun other15 => turnO (some true) ((consO (b2 dIx (some order7) (some (PyData.int 0))) (consO (some other15) (some []))).map PyData.tuple)).map PyData.list))) q) (ifK (lift (andO ((b2 dEq (some way5) (some (PyData.int 5))).bind asB) ((b2 dGt (some n3) (some (PyData.int 4))).bind asB))) ((op2 dAdd (lift (some (PyData.int 2))) (drawM (consM (lift (b2 dSub (some n3) (some (PyData.int 4)))) nilM) (G1 m__law_take))) fun half16 => ((lstM (lift (consO (slO (some order7) (some none) ((b2 dAdd (some half16) (some (PyData.int 1))).bind asI)) (consO (slO (some order7) ((some half16).bind asI) (some none)) (some []))))) fun rings17 => ((lift ((some rings17).bind dItems)) fun ds => forK (S := D) (fun s18 ring22 kk19 => ((lift (b2 dAdd (some s18) ((lcO (C1 (fun x => dRange [x]) (C1 dLen (some ring22))) fun k24 => turnO (some true) ((consO (b2 dIx (some ring22) (b2 dSub (some k24) (some (PyData.int 1)))) (consO (b2 dIx (some ring22) (some k24)) (some []))).map PyData.tuple)).map PyData.list))) fun pairs23 => (kk19 pairs23))) ds (PyData.list pairs9) fun s21 => ((lift (C2 m__law_web (some n3) (some s21))) q)))) ((lift (C2 (fun x y => dRange [x, y]) (some (PyData.int 1)) (some n3))) fun ds => forK (S := List D) (fun s25 k29 kk26 => ((tupM (consM (op2 dIx (lift (some order7)) (drawM (consM (lift (some k29)) nilM) (G1 m__law_take))) (consM (lift (b2 dIx (some order7) (some k29))) nilM))) fun d31 m => s25.length < sizeLine ∧ ((kk26 (s25 ++ [d31]))) m)) ds pairs9 fun s28 => ((lift (b2 dIx ((consO (some (PyData.int 0)) (consO (some (PyData.int 1)) (consO (some (PyData.int 0)) (consO (some (PyData.int 0)) (consO (some (PyData.int 0)) (consO (some (PyData.int 2)) (consO (some (PyData.int 3)) (consO (some n3) (consO (b2 dMul (some (PyData.int 3)) (some n3)) (some [])))))))))).map PyData.list) (some way5))) fun more32 => ((appM (consM (lift (some n3)) (consM (op2 dAdd (lift (some (PyData.list s28))) (lstM (lcM (lift (C1 (fun x => dRange [x]) (some more32))) fun k33 => turnM (lift (some true)) (tupM (consM (drawM (consM (lift (some n3)) nilM) (G1 m__law_take)) (consM (drawM (consM (lift (some n3)) nilM) (G1 m__law_take)) nilM)))))) nilM)) (F2 m__law_web)) q)))))))) c10)) c8))))) c6)) c4))))
theorem c2_some {β : Type} (f : D → D → Option β) (a b : D) : C2 f (some a) (some b) = f a b := rfl
def tieD (p : Nat × Nat) : D := .tuple [.int p.1, .int p.2]
def webD (n : Nat) (ts : List (Nat × Nat)) : D := .tuple [.int n, .tuple (ts.map tieD)]
structure Wb (n : Nat) (ts : List (Nat × Nat)) : Prop where
  lo : 1 ≤ n
  hi : n ≤ 12
  few : ts.length ≤ 100
  ord : ∀ p ∈ ts, p.1 < p.2 ∧ p.2 < n
  asc : ts.Pairwise fun p q => p.1 < q.1 ∨ (p.1 = q.1 ∧ p.2 < q.2)
def adj (ts : List (Nat × Nat)) (a b : Nat) : Bool := decide ((min a b, max a b) ∈ ts)
def nbr (n : Nat) (ts : List (Nat × Nat)) (p : Nat) : List Nat := (List.range n).filter fun o => decide (o ≠ p) && adj ts p o
theorem web1 (n : Nat) (ts : List (Nat × Nat)) : b2 dIx (some (webD n ts)) (some (PyData.int 1)) = some (.tuple (ts.map tieD)) := rfl
theorem min2_nat (a b : Nat) : C2 dMin2 (some (PyData.int a)) (some (.int b)) = some (.int ((min a b : Nat) : Int)) := by
  show some (PyData.int (if (b : Int) < a then (b : Int) else a)) = _
  congr 2
  split <;> omega
theorem max2_nat (a b : Nat) : C2 dMax2 (some (PyData.int a)) (some (.int b)) = some (.int ((max a b : Nat) : Int)) := by
  show some (PyData.int (if (b : Int) > a then (b : Int) else a)) = _
  congr 2
  split <;> omega
theorem ne_nat (a b : Nat) : b2 dNe (some (PyData.int a)) (some (.int b)) = some (.bool (decide (a ≠ b))) := by
  rw [b2_some, dNe_int]
  congr 2
  rw [Bool.eq_iff_iff]
  simp only [Bool.not_eq_true', decide_eq_false_iff_not, decide_eq_true_eq]
  omega
theorem eq_nat (a b : Nat) : b2 dEq (some (PyData.int a)) (some (.int b)) = some (.bool (decide (a = b))) := by
  rw [b2_some, dEq_int]
  congr 2
  rw [Bool.eq_iff_iff]
  simp only [decide_eq_true_eq]
  omega
theorem asB_bool (b : Bool) : (some (PyData.bool b)).bind asB = some b := rfl
theorem andO_some (a b : Bool) : andO (some a) (some b) = some (a && b) := by
  cases a <;> rfl
theorem nbr_lt {n : Nat} {ts : List (Nat × Nat)} {p x : Nat} (h : x ∈ nbr n ts p) : x < n := List.mem_range.mp (List.mem_filter.mp h).1
/-- places in ascending order -/
def Asc (xs : List Nat) : Prop := xs.Pairwise (· < ·)
theorem asc_range (n : Nat) : Asc (List.range n) := List.pairwise_lt_range
theorem asc_filter {xs : List Nat} (p : Nat → Bool) (h : Asc xs) : Asc (xs.filter p) := List.Pairwise.filter p h
theorem asc_one {xs ys : List Nat} (h1 : Asc xs) (h2 : Asc ys) (h : ∀ z, z ∈ xs ↔ z ∈ ys) : xs = ys := strict_one (fun a b h1 h2 => by omega) h1 h2 h
theorem asc_nodup {xs : List Nat} (h : Asc xs) : xs.Nodup := h.imp fun h => Nat.ne_of_lt h
theorem add_lists (xs ys : List D) (h : xs.length + ys.length ≤ sizeLine) : b2 dAdd (some (.list xs)) (some (.list ys)) = some (.list (xs ++ ys)) := if_pos h
theorem add_listsO {xs ys : List D} {o : Option D} (ho : o = some (.list ys)) (h : xs.length + ys.length ≤ sizeLine) : b2 dAdd (some (.list xs)) o = some (.list (xs ++ ys)) := by
  subst ho
  exact add_lists xs ys h
theorem adj_iff {n : Nat} {ts : List (Nat × Nat)} (W : Wb n ts) (p z : Nat) : (z ≠ p ∧ adj ts p z = true) ↔ (p, z) ∈ ts ∨ (z, p) ∈ ts := by
  unfold adj
  rw [decide_eq_true_eq]
  constructor
  · rintro ⟨h1, h2⟩
    rcases Nat.lt_or_gt_of_ne h1 with h | h
    · rw [Nat.min_eq_right (by omega), Nat.max_eq_left (by omega)] at h2
      exact .inr h2
    · rw [Nat.min_eq_left (by omega), Nat.max_eq_right (by omega)] at h2
      exact .inl h2
  · rintro (h | h)
    · have := (W.ord _ h).1
      simp only at this
      exact ⟨by omega, by rw [Nat.min_eq_left (by omega), Nat.max_eq_right (by omega)]; exact h⟩
    · have := (W.ord _ h).1
      simp only at this
      exact ⟨by omega, by rw [Nat.min_eq_right (by omega), Nat.max_eq_left (by omega)]; exact h⟩
theorem nbr_iff {n : Nat} {ts : List (Nat × Nat)} (W : Wb n ts) (p z : Nat) : z ∈ nbr n ts p ↔ (p, z) ∈ ts ∨ (z, p) ∈ ts := by
  unfold nbr
  rw [List.mem_filter, List.mem_range, Bool.and_eq_true, decide_eq_true_eq, adj_iff W]
  refine ⟨fun h => h.2, fun h => ⟨?_, h⟩⟩
  rcases h with h | h
  · exact (W.ord _ h).2
  · have := W.ord _ h
    simp only at this
    omega
theorem nbr_symm {n : Nat} {ts : List (Nat × Nat)} (W : Wb n ts) {p z : Nat} (h : z ∈ nbr n ts p) : p ∈ nbr n ts z := by
  rw [nbr_iff W] at *
  exact h.symm
theorem nbr_asc (n : Nat) (ts : List (Nat × Nat)) (p : Nat) : Asc (nbr n ts p) := asc_filter _ (asc_range n)
/-- what is reached from a place through the places of a lot -/
inductive Rch (n : Nat) (ts : List (Nat × Nat)) (lot : List Nat) (p : Nat) : Nat → Prop
  | base : Rch n ts lot p p
  | step {x y : Nat} : Rch n ts lot p x → y ∈ nbr n ts x → y ∈ lot → Rch n ts lot p y
theorem Rch.lt {n : Nat} {ts : List (Nat × Nat)} {lot : List Nat} {p x : Nat} (hp : p < n) (h : Rch n ts lot p x) : x < n := by
  cases h with
  | base => exact hp
  | step _ h _ => exact nbr_lt h
theorem Rch.mem {n : Nat} {ts : List (Nat × Nat)} {lot : List Nat} {p x : Nat} (h : Rch n ts lot p x) : x ∈ p :: lot := by
  cases h with
  | base => exact List.mem_cons_self
  | step _ _ h => exact List.mem_cons_of_mem _ h
open Classical in
noncomputable def piece (n : Nat) (ts : List (Nat × Nat)) (lot : List Nat) (p : Nat) : List Nat := (List.range n).filter fun x => decide (Rch n ts lot p x)
open Classical in
theorem piece_mem {n : Nat} {ts : List (Nat × Nat)} {lot : List Nat} {p x : Nat} (hp : p < n) : x ∈ piece n ts lot p ↔ Rch n ts lot p x := by
  unfold piece
  rw [List.mem_filter, List.mem_range, decide_eq_true_eq]
  exact ⟨fun h => h.2, fun h => ⟨h.lt hp, h⟩⟩
open Classical in
theorem piece_asc (n : Nat) (ts : List (Nat × Nat)) (lot : List Nat) (p : Nat) : Asc (piece n ts lot p) := asc_filter _ (asc_range n)
section
variable {n : Nat} {ts : List (Nat × Nat)} {lot : List Nat} {p : Nat}
end
theorem in_places (x : Nat) (lot : List Nat) (neg : Bool) (d : D) (hd : d = .tuple (ofN lot) ∨ d = .list (ofN lot)) : b2 (dIn neg) (some (.int x)) (some d) = some (.bool (if neg then !decide (x ∈ lot) else decide (x ∈ lot))) := by
  have pl : ∀ lot : List Nat, PyData.plainAll (ofN lot) = true ∧ PyData.depthAll (ofN lot) = 0 := fun lot => by
    induction lot with
    | nil => exact ⟨rfl, rfl⟩
    | cons y ys ih =>
      obtain ⟨h1, h2⟩ := ih
      have e : ofN (y :: ys) = PyData.int y :: ofN ys := rfl
      rw [e]
      exact ⟨by simp [PyData.plainAll, PyData.plain, h1], by simp [PyData.depthAll, PyData.depth, h2]⟩
  obtain ⟨h1, h2⟩ := pl lot
  have ok : inOk (.int x) (ofN lot) = true := by
    simp only [inOk, h1, h2, Bool.true_and, Bool.and_eq_true, decide_eq_true_eq]
    refine ⟨rfl, by omega⟩
  have e : (ofN lot).any (fun y => PyData.eqv y (.int x)) = decide (x ∈ lot) := by
    unfold ofN
    rw [List.any_map]
    by_cases h : x ∈ lot
    · rw [decide_eq_true h, List.any_eq_true]
      exact ⟨_, h, by simp [PyData.eqv]⟩
    · rw [decide_eq_false h, List.any_eq_false]
      intro y hy
      simp only [Function.comp, PyData.eqv, beq_iff_eq]
      intro e
      have : y = x := by omega
      exact h (this ▸ hy)
  have key : ∀ d, d = PyData.tuple (ofN lot) ∨ d = PyData.list (ofN lot) → dIn neg (.int x) d = if inOk (.int x) (ofN lot) = true then some (.bool (if neg = true then !((ofN lot).any fun y => PyData.eqv y (.int x)) else (ofN lot).any fun y => PyData.eqv y (.int x))) else none := fun d hd => by
    rcases hd with rfl | rfl <;> rfl
  rw [b2_some, key d hd, if_pos ok, e]
theorem in_lst (x : Nat) (lot : List Nat) : b2 (dIn false) (some (.int x)) (some (.list (ofN lot))) = some (.bool (decide (x ∈ lot))) := in_places x lot false _ (.inr rfl)
section
variable {n : Nat} {ts : List (Nat × Nat)} {lot : List Nat} {p : Nat} {α : Type}
def more (n : Nat) (ts : List (Nat × Nat)) (lot : List Nat) (fs : List Nat) : List Nat := fs.flatMap fun o => (nbr n ts o).filter fun x => decide (x ∈ lot)
theorem len_tup (xs : List Nat) : C1 dLen (some (PyData.tuple (ofN xs))) = some (.int (xs.length : Nat)) := by
  show some (PyData.int ((ofN xs).length : Nat)) = _
  rw [ofN_len]
theorem range_items {n : Nat} (hn : n < 100000) : C1 (fun x => dRange [x]) (some (PyData.int (n : Int))) = some (ofN (List.range n)) := by
  have h : small62 (n : Int) = true := by
    simp only [small62, decide_eq_true_eq]
    omega
  rw [c1_some]
  simp only [dRange, h, if_true]
  rw [rangeD0]
  rfl
theorem lt_nat (a b : Nat) : b2 dLt (some (PyData.int a)) (some (.int b)) = some (.bool (decide (a < b))) := by
  show some (PyData.bool (decide ((a : Int) < (b : Int)))) = _
  congr 2
  rw [Bool.eq_iff_iff]
  simp only [decide_eq_true_eq]
  omega
theorem ix_lst {xs : List Nat} {i : Nat} (h : i < xs.length) : b2 dIx (some (.list (ofN xs))) (some (.int i)) = some (.int (xs[i] : Nat)) := by
  rw [b2_some, dIx_list (by omega) (by rw [ofN_len]; omega), Int.toNat_natCast]
  unfold ofN
  rw [List.getElem?_map, List.getElem?_eq_getElem h]
  rfl
theorem ix_tup {xs : List Nat} {i : Nat} (h : i < xs.length) : b2 dIx (some (.tuple (ofN xs))) (some (.int i)) = some (.int (xs[i] : Nat)) := by
  rw [b2_some, dIx_tup (by omega) (by rw [ofN_len]; omega), Int.toNat_natCast]
  unfold ofN
  rw [List.getElem?_map, List.getElem?_eq_getElem h]
  rfl
end
section
variable {n : Nat} {ts : List (Nat × Nat)} {lot : List Nat} {p : Nat} {α : Type}
end
theorem cO_gen {α : Type} {F : D → Option (Option D)} {p : α → Bool} {g h : α → D} : ∀ (xs : List α), (∀ x ∈ xs, F (g x) = some (if p x = true then some (h x) else none)) → cO F (xs.map g) = some ((xs.filter p).map h)
  | [], _ => rfl
  | x :: xs, hf => by
    show (F (g x)).bind _ = _
    rw [hf x List.mem_cons_self]
    have ih := cO_gen (F := F) (p := p) (g := g) (h := h) xs fun y hy => hf y (List.mem_cons_of_mem _ hy)
    show (cO F (xs.map g)).bind _ = _
    rw [ih]
    by_cases hp : p x = true
    · rw [if_pos hp, List.filter_cons_of_pos hp]; rfl
    · rw [if_neg hp, List.filter_cons_of_neg hp]; rfl
theorem lcO_gen {α : Type} {F : D → Option (Option D)} {p : α → Bool} {g h : α → D} {oi : Option (List D)} (xs : List α) (hi : oi = some (xs.map g)) (hl : xs.length < sizeLine) (hf : ∀ x ∈ xs, F (g x) = some (if p x = true then some (h x) else none)) : lcO oi F = some ((xs.filter p).map h) := by
  rw [hi]
  show (if (xs.map g).length < sizeLine then cO _ (xs.map g) else none) = _
  rw [if_pos (by rw [List.length_map]; exact hl)]
  exact cO_gen xs hf
def rowI (p : Nat × Nat) : List Int := [(p.1 : Int), (p.2 : Int)]
theorem row_inj {p q : Nat × Nat} (h : rowI p = rowI q) : p = q := by
  obtain ⟨a, b⟩ := p
  obtain ⟨c, d⟩ := q
  simp only [rowI, List.cons.injEq, and_true] at h
  obtain ⟨h1, h2⟩ := h
  have : a = c := by omega
  have : b = d := by omega
  simp [*]
theorem row_le (p q : Nat × Nat) : rowI p ≤ rowI q ↔ p.1 < q.1 ∨ (p.1 = q.1 ∧ p.2 ≤ q.2) := by
  have h : ¬ rowI q < rowI p ↔ rowI p ≤ rowI q := List.not_lt
  rw [← h]
  unfold rowI
  rw [List.cons_lt_cons_iff, List.cons_lt_cons_iff]
  simp only [List.not_lt_nil, and_false, or_false]
  omega
def pairLe (p q : Nat × Nat) : Bool := decide (rowI p ≤ rowI q)
def ordP (ps : List (Nat × Nat)) : List (Nat × Nat) := (dd ps).mergeSort pairLe
theorem ordP_mem {p : Nat × Nat} (ps : List (Nat × Nat)) : p ∈ ordP ps ↔ p ∈ ps := by
  unfold ordP
  rw [(List.mergeSort_perm _ _).mem_iff, mem_dd]
theorem ordP_len (ps : List (Nat × Nat)) : (ordP ps).length ≤ ps.length := by
  unfold ordP
  rw [List.length_mergeSort]
  exact dd_le ps
theorem ordP_asc (ps : List (Nat × Nat)) : (ordP ps).Pairwise fun p q => p.1 < q.1 ∨ (p.1 = q.1 ∧ p.2 < q.2) := by
  have h := List.pairwise_mergeSort (le := pairLe) (fun a b c h1 h2 => decide_eq_true (List.le_trans (of_decide_eq_true h1) (of_decide_eq_true h2))) (fun a b => by
    rcases List.le_total (rowI a) (rowI b) with h | h
    · simp [pairLe, h]
    · simp [pairLe, h]) (dd ps)
  have n : (ordP ps).Nodup := ((List.mergeSort_perm _ _).nodup_iff).mpr (nodup_dd ps)
  refine (le_strict h n).imp fun {a b} ⟨h1, h2⟩ => ?_
  have := (row_le a b).mp (of_decide_eq_true h1)
  by_cases e1 : a.1 = b.1
  · by_cases e2 : a.2 = b.2
    · exact absurd (Prod.ext e1 e2) h2
    · omega
  · omega
theorem ssT_pairs (ps : List (Nat × Nat)) : (ordP ps).map rowI = ssT (ps.map rowI) := by
  refine ssT_one ?_ fun k => ?_
  · refine List.pairwise_map.mpr ((ordP_asc ps).imp fun {a b} h => ⟨(row_le a b).mpr (by omega), fun e => ?_⟩)
    have := row_inj e
    subst this
    omega
  · simp only [List.mem_map, ordP_mem]
theorem dSS_pairs (ps : List (Nat × Nat)) (h : ps.length < 76) : dSS (.list (ps.map tieD)) = some ((ordP ps).map tieD) := by
  cases ps with
  | nil => 
    have : (ordP ([] : List (Nat × Nat))) = [] := by
      have := ordP_len ([] : List (Nat × Nat))
      exact List.length_eq_zero_iff.mp (by simpa using this)
    rw [this]
    have e : ssI [] = [] := by
      have : ∀ k, ¬ k ∈ ssI [] := fun k => by rw [ssI_mem]; exact List.not_mem_nil
      exact List.eq_nil_iff_forall_not_mem.mpr this
    unfold dSS
    simp only [List.map_nil, intsOf]
    rw [if_pos (by decide), e]
    rfl
  | cons p ps =>
    have e1 : intsOf ((p :: ps).map tieD) = none := rfl
    have e2 : (p :: ps).map tieD = ((p :: ps).map rowI).map tupD := by rw [List.map_map]; rfl
    unfold dSS
    simp only [e1]
    rw [e2, rowsD_map, Option.bind_some, if_pos, ← ssT_pairs, List.map_map]
    · rfl
    · refine ⟨by rw [List.length_map]; exact h, ?_⟩
      rw [List.all_map, List.all_eq_true]
      intro q _
      rfl
/-- the ties that pairs make -/
def tiesOf (ps : List (Nat × Nat)) : List (Nat × Nat) := ordP ((ps.filter fun p => decide (p.1 ≠ p.2)).map fun p => (min p.1 p.2, max p.1 p.2))
theorem tiesOf_mem (a b : Nat) (ps : List (Nat × Nat)) : (a, b) ∈ tiesOf ps ↔ a < b ∧ ((a, b) ∈ ps ∨ (b, a) ∈ ps) := by
  unfold tiesOf
  rw [ordP_mem, List.mem_map]
  simp only [List.mem_filter, decide_eq_true_eq, Prod.exists, Prod.mk.injEq]
  constructor
  · rintro ⟨x, y, ⟨h1, h2⟩, h3, h4⟩
    refine ⟨by omega, ?_⟩
    rcases Nat.lt_or_gt_of_ne h2 with h | h
    · have e1 : x = a := by omega
      have e2 : y = b := by omega
      subst e1; subst e2
      exact .inl h1
    · have e1 : y = a := by omega
      have e2 : x = b := by omega
      subst e1; subst e2
      exact .inr h1
  · rintro ⟨h, h1 | h1⟩
    · exact ⟨a, b, ⟨h1, by omega⟩, by omega, by omega⟩
    · exact ⟨b, a, ⟨h1, by omega⟩, by omega, by omega⟩
theorem lawWeb_eval {n : Nat} {ps : List (Nat × Nat)} {o : Option D} (ho : o = some (.list (ps.map tieD)) ∨ o = some (.tuple (ps.map tieD))) (h : ps.length < 76) : C2 m__law_web (some (.int n)) o = some (webD n (tiesOf ps)) := by
  have key : ∀ d : D, (some d).bind dItems = some (ps.map tieD) → m__law_web (.int n) d = some (webD n (tiesOf ps)) := fun d hd => by
    unfold m__law_web
    have e := lcO_gen (F := fun d => un2 d fun a3 b4 => turnO ((b2 dNe (some a3) (some b4)).bind asB) ((consO (C2 dMin2 (some a3) (some b4)) (consO (C2 dMax2 (some a3) (some b4)) (some []))).map PyData.tuple)) (p := fun p : Nat × Nat => decide (p.1 ≠ p.2)) (g := tieD) (h := fun p => tieD (min p.1 p.2, max p.1 p.2)) ps hd (by rw [sizeLine_eq]; omega) fun p _ => by
      show turnO ((b2 dNe (some (PyData.int p.1)) (some (.int p.2))).bind asB) ((consO (C2 dMin2 (some (PyData.int p.1)) (some (.int p.2))) (consO (C2 dMax2 (some (PyData.int p.1)) (some (.int p.2))) (some []))).map PyData.tuple) = _
      rw [ne_nat, asB_bool, min2_nat, max2_nat]
      by_cases hh : p.1 ≠ p.2
      · rw [decide_eq_true hh]; rfl
      · rw [decide_eq_false hh]; rfl
    rw [e]
    have e2 : (ps.filter fun p => decide (p.1 ≠ p.2)).map (fun p => tieD (min p.1 p.2, max p.1 p.2)) = ((ps.filter fun p => decide (p.1 ≠ p.2)).map fun p => (min p.1 p.2, max p.1 p.2)).map tieD := by rw [List.map_map]; rfl
    rw [e2, Option.map_some, c1_some, dSS_pairs _ (by rw [List.length_map]; exact Nat.lt_of_le_of_lt (List.length_filter_le _ _) h)]
    rfl
  rcases ho with rfl | rfl
  · exact key _ rfl
  · exact key _ rfl
theorem tiesOf_web {n : Nat} {ps : List (Nat × Nat)} (h1 : 1 ≤ n) (h2 : n ≤ 12) (hl : ps.length < 76) (hp : ∀ p ∈ ps, p.1 < n ∧ p.2 < n) : Wb n (tiesOf ps) where
  lo := h1
  hi := h2
  few := by
    have := ordP_len ((ps.filter fun p => decide (p.1 ≠ p.2)).map fun p => (min p.1 p.2, max p.1 p.2))
    rw [List.length_map] at this
    have := List.length_filter_le (fun p : Nat × Nat => decide (p.1 ≠ p.2)) ps
    unfold tiesOf
    omega
  ord := fun p hm => by
    obtain ⟨a, b⟩ := p
    obtain ⟨h, h3⟩ := (tiesOf_mem a b ps).mp hm
    refine ⟨h, ?_⟩
    rcases h3 with h3 | h3
    · exact (hp _ h3).2
    · exact (hp _ h3).1
  asc := ordP_asc _
theorem Sp.useD {k : Nat} {T : M D} {Φ : D → Prop} {Ts : M (List Cell)} {q : List Cell → Nat → Prop} {m : Nat} (h : Sp k T Φ) (hm : m + k ≤ 1000000000) (hq : ∀ a m', m' ≤ m + k → Φ a → Ts (fun cs m2 => q (.dat a :: cs) m2) m') : consDM T Ts q m := h _ m hm hq
theorem sp_lcv {k k2 L : Nat} {Ti : M (List D)} {f : D → M D} {Φ : D → Prop} (hi : Sp k2 Ti (fun es => es.length ≤ L)) (hL : L < sizeLine) (h : ∀ d, Sp k (f d) Φ) : Sp (k2 + L * k) (lcM Ti fun d => turnM (lift (some true)) (f d)) (fun es => es.length ≤ L ∧ ∀ e ∈ es, Φ e) := fun q m hm hq =>
  hi _ m (by omega) fun ds m1 h1 hd => by
    refine ⟨Nat.lt_of_le_of_lt hd hL, ?_⟩
    have hmul : ds.length * k ≤ L * k := Nat.mul_le_mul_right k hd
    refine (sp_cM (Φ := fun _ => Φ) fun d _ => h d).use (by omega) fun es m2 h2 he => hq es m2 (by omega) ?_
    have hl := All2.len he
    refine ⟨by omega, fun e hm => ?_⟩
    have gen : ∀ {ds es : List D}, All2 (fun _ => Φ) ds es → ∀ e ∈ es, Φ e := fun {ds} => by
      induction ds with
      | nil => intro es h; cases es with
        | nil => exact fun e h => nomatch h
        | cons _ _ => exact h.elim
      | cons d ds ih => intro es h; cases es with
        | nil => exact h.elim
        | cons e es => exact fun x hx => (List.mem_cons.mp hx).elim (fun e => e ▸ h.1) (ih h.2 x)
    exact gen he e hm
def isPr (n : Nat) (d : D) : Prop := ∃ p : Nat × Nat, d = tieD p ∧ p.1 < n ∧ p.2 < n
/-- a list of at most L pairs of places -/
def PL (n L : Nat) (ds : List D) : Prop := ds.length ≤ L ∧ ∀ d ∈ ds, isPr n d
theorem PL.pairs {n L : Nat} {ds : List D} (h : PL n L ds) : ∃ ps : List (Nat × Nat), ds = ps.map tieD ∧ ps.length ≤ L ∧ ∀ p ∈ ps, p.1 < n ∧ p.2 < n := by
  obtain ⟨hl, h⟩ := h
  have gen : ∀ ds : List D, (∀ d ∈ ds, isPr n d) → ∃ ps : List (Nat × Nat), ds = ps.map tieD ∧ ∀ p ∈ ps, p.1 < n ∧ p.2 < n := fun ds => by
    induction ds with
    | nil => exact fun _ => ⟨[], rfl, fun _ h => nomatch h⟩
    | cons d ds ih =>
      intro h
      obtain ⟨p, rfl, hp⟩ := h d List.mem_cons_self
      obtain ⟨ps, rfl, h2⟩ := ih fun d hd => h d (List.mem_cons_of_mem _ hd)
      exact ⟨p :: ps, rfl, fun q hq => (List.mem_cons.mp hq).elim (fun e => e ▸ hp) (h2 q)⟩
  obtain ⟨ps, rfl, h2⟩ := gen ds h
  rw [List.length_map] at hl
  exact ⟨ps, rfl, hl, h2⟩
theorem PL.web {n L : Nat} {ds : List D} {o : Option D} (h : PL n L ds) (ho : o = some (.list ds)) (hL : L < 76) (h1 : 1 ≤ n) (h12 : n ≤ 12) : ∃ ts, C2 m__law_web (some (.int n)) o = some (webD n ts) ∧ Wb n ts := by
  obtain ⟨ps, rfl, hl, hp⟩ := h.pairs
  exact ⟨_, lawWeb_eval (.inl ho) (by omega), tiesOf_web h1 h12 (by omega) hp⟩
theorem PL.app {n L L2 : Nat} {ds es : List D} (h : PL n L ds) (h2 : PL n L2 es) : PL n (L + L2) (ds ++ es) := by
  refine ⟨?_, fun d hd => (List.mem_append.mp hd).elim (h.2 d) (h2.2 d)⟩
  have h1 := h.1
  have h3 := h2.1
  rw [List.length_append]
  omega
theorem PL.mono {n L L2 : Nat} {ds : List D} (h : PL n L ds) (hl : L ≤ L2) : PL n L2 ds := ⟨Nat.le_trans h.1 hl, h.2⟩
theorem PL.add {n L L2 : Nat} {ds es : List D} {o : Option D} (h : PL n L ds) (h2 : PL n L2 es) (ho : o = some (.list es)) (hz : L + L2 < 1000) : b2 dAdd (some (.list ds)) o = some (.list (ds ++ es)) ∧ PL n (L + L2) (ds ++ es) := by
  have h1 := h.1
  have h3 := h2.1
  exact ⟨add_listsO ho (by rw [sizeLine_eq]; omega), h.app h2⟩
/-- a pure comprehension of pairs -/
theorem PL.lc {n L : Nat} {xs : List Nat} {o : Option (List D)} {f : D → Option D} (ho : o = some (ofN xs)) (hl : xs.length ≤ L) (hL : L < 1000) (hf : ∀ x ∈ xs, ∃ p : Nat × Nat, f (.int (x : Nat)) = some (tieD p) ∧ p.1 < n ∧ p.2 < n) : ∃ ds, lcO o (fun d => turnO (some true) (f d)) = some ds ∧ PL n L ds := by
  have hc : ∀ x : Nat, ∃ p : Nat × Nat, x ∈ xs → f (.int (x : Nat)) = some (tieD p) ∧ p.1 < n ∧ p.2 < n := fun x => by
    by_cases h : x ∈ xs
    · obtain ⟨p, hp⟩ := hf x h
      exact ⟨p, fun _ => hp⟩
    · exact ⟨(0, 0), fun e => absurd e h⟩
  have hq := Classical.axiomOfChoice hc
  obtain ⟨g, hg⟩ := hq
  refine ⟨xs.map fun x => tieD (g x), ?_, by rw [List.length_map]; exact hl, fun d hd => ?_⟩
  · exact lcO_map (g := fun (i : Nat) => PyData.int i) (h := fun x => tieD (g x)) xs ho (by rw [sizeLine_eq]; omega) fun x hx => (hg x hx).1
  · obtain ⟨x, hx, rfl⟩ := List.mem_map.mp hd
    exact ⟨_, rfl, (hg x hx).2⟩
theorem pair_ok {a b : Nat} {oa ob : Option D} (ha : oa = some (.int a)) (hb : ob = some (.int b)) : (consO oa (consO ob (some []))).map PyData.tuple = some (tieD (a, b)) := by
  subst ha; subst hb
  rfl
theorem sub_nat {a b : Nat} (h : b ≤ a) : b2 dSub (some (PyData.int a)) (some (.int b)) = some (.int ((a - b : Nat) : Int)) := by
  rw [sub_ok]
  congr 2
  omega
theorem add_nat (a b : Nat) : b2 dAdd (some (PyData.int a)) (some (.int b)) = some (.int ((a + b : Nat) : Int)) := by
  rw [add_ok]
  congr 2
theorem ix_neg {xs : List Nat} {k : Nat} (h : k < xs.length) (h1 : 0 < xs.length) : ∃ y, y ∈ xs ∧ b2 dIx (some (.tuple (ofN xs))) (b2 dSub (some (.int (k : Nat))) (some (PyData.int 1))) = some (.int (y : Nat)) := by
  by_cases hk : k = 0
  · subst hk
    refine ⟨xs[xs.length - 1], List.getElem_mem _, ?_⟩
    rw [sub_ok, b2_some]
    show atI (ofN xs) (((0 : Nat) : Int) - 1) = _
    have e : (ofN xs).length = xs.length := ofN_len xs
    unfold atI
    simp only [ixN, e]
    rw [if_neg (by omega), if_pos (by omega)]
    have : ((((0 : Nat) : Int) - 1) + (xs.length : Int)).toNat = xs.length - 1 := by omega
    rw [Option.bind_some, this]
    unfold ofN
    rw [List.getElem?_map, List.getElem?_eq_getElem (by omega)]
    rfl
  · have e := sub_nat (a := k) (b := 1) (by omega)
    refine ⟨xs[k - 1], List.getElem_mem _, ?_⟩
    refine (congrArg (b2 dIx (some (PyData.tuple (ofN xs)))) e).trans ?_
    exact ix_tup (by omega)
theorem range2_items {a n : Nat} (ha : a < 100000) (hn : n < 100000) : C2 (fun x y => dRange [x, y]) (some (PyData.int (a : Int))) (some (.int (n : Int))) = some (ofN ((List.range (n - a)).map fun i => i + a)) := by
  have h1 : small62 (a : Int) = true := by
    simp only [small62, decide_eq_true_eq]
    omega
  have h2 : small62 (n : Int) = true := by
    simp only [small62, decide_eq_true_eq]
    omega
  rw [c2_some]
  simp only [dRange, h1, h2, and_self, if_true]
  unfold rangeD ofN
  rw [List.map_map]
  have e : ((n : Int) - (a : Int)).toNat = n - a := by omega
  rw [e]
  refine congrArg some (List.map_congr_left fun i _ => ?_)
  show PyData.int ((a : Int) + (i : Int)) = PyData.int ((i + a : Nat) : Int)
  rw [Int.natCast_add, Int.add_comm]
theorem forK_cons {S : Type} {body : S → D → (S → Nat → Prop) → Nat → Prop} {d : D} {ds : List D} {s : S} {k : S → Nat → Prop} {m : Nat} : forK body (d :: ds) s k m = body s d (fun s' => forK body ds s' k) m := rfl
section
variable {n : Nat} {xs : List Nat} {q : D → Nat → Prop} {m : Nat}
def treeK (q : D → Nat → Prop) (n3 way5 order7 : D) (pairs9 : List D) : Nat → Prop := ((lift (C2 (fun x y => dRange [x, y]) (some (PyData.int 1)) (some n3))) fun ds => forK (S := List D) (fun s25 k29 kk26 => ((tupM (consM (op2 dIx (lift (some order7)) (drawM (consM (lift (some k29)) nilM) (G1 m__law_take))) (consM (lift (b2 dIx (some order7) (some k29))) nilM))) fun d31 m => s25.length < sizeLine ∧ ((kk26 (s25 ++ [d31]))) m)) ds pairs9 fun s28 => ((lift (b2 dIx ((consO (some (PyData.int 0)) (consO (some (PyData.int 1)) (consO (some (PyData.int 0)) (consO (some (PyData.int 0)) (consO (some (PyData.int 0)) (consO (some (PyData.int 2)) (consO (some (PyData.int 3)) (consO (some n3) (consO (b2 dMul (some (PyData.int 3)) (some n3)) (some [])))))))))).map PyData.list) (some way5))) fun more32 => ((appM (consM (lift (some n3)) (consM (op2 dAdd (lift (some (PyData.list s28))) (lstM (lcM (lift (C1 (fun x => dRange [x]) (some more32))) fun k33 => turnM (lift (some true)) (tupM (consM (drawM (consM (lift (some n3)) nilM) (G1 m__law_take)) (consM (drawM (consM (lift (some n3)) nilM) (G1 m__law_take)) nilM)))))) nilM)) (F2 m__law_web)) q)))
def ringK (q : D → Nat → Prop) (n3 order7 : D) (pairs9 : List D) : Nat → Prop := ((op2 dAdd (lift (some (PyData.int 2))) (drawM (consM (lift (b2 dSub (some n3) (some (PyData.int 4)))) nilM) (G1 m__law_take))) fun half16 => ((lstM (lift (consO (slO (some order7) (some none) ((b2 dAdd (some half16) (some (PyData.int 1))).bind asI)) (consO (slO (some order7) ((some half16).bind asI) (some none)) (some []))))) fun rings17 => ((lift ((some rings17).bind dItems)) fun ds => forK (S := D) (fun s18 ring22 kk19 => ((lift (b2 dAdd (some s18) ((lcO (C1 (fun x => dRange [x]) (C1 dLen (some ring22))) fun k24 => turnO (some true) ((consO (b2 dIx (some ring22) (b2 dSub (some k24) (some (PyData.int 1)))) (consO (b2 dIx (some ring22) (some k24)) (some []))).map PyData.tuple)).map PyData.list))) fun pairs23 => (kk19 pairs23))) ds (PyData.list pairs9) fun s21 => ((lift (C2 m__law_web (some n3) (some s21))) q))))
theorem sp_pair (h1 : 1 ≤ n) (h12 : n ≤ 12) : Sp 2 (tupM (consM (drawM (consM (lift (some (PyData.int (n : Nat)))) nilM) (G1 m__law_take)) (consM (drawM (consM (lift (some (PyData.int (n : Nat)))) nilM) (G1 m__law_take)) nilM))) (isPr n) := by
  have s := sp_draw (k := 0) (n := n) (sp_lift (a := PyData.int (n : Nat)) rfl) (by omega) (by omega)
  refine (sp_tup (sp_cons s (sp_cons s sp_nil))).mono (by omega) fun d hd => ?_
  obtain ⟨ds, rfl, a, r, rfl, ⟨u, rfl, hu⟩, b, r2, rfl, ⟨v, rfl, hv⟩, rfl⟩ := hd
  exact ⟨(u, v), rfl, hu, hv⟩
theorem sp_pairs {k2 L : Nat} {Ti : M (List D)} (h1 : 1 ≤ n) (h12 : n ≤ 12) (hi : Sp k2 Ti (fun es => es.length ≤ L)) (hL : L < 1000) : Sp (k2 + L * 2) (lcM Ti fun k12 => turnM (lift (some true)) (tupM (consM (drawM (consM (lift (some (PyData.int (n : Nat)))) nilM) (G1 m__law_take)) (consM (drawM (consM (lift (some (PyData.int (n : Nat)))) nilM) (G1 m__law_take)) nilM)))) (PL n L) :=
  (sp_lcv hi (by rw [sizeLine_eq]; omega) fun _ => sp_pair h1 h12).mono (Nat.le_refl _) fun es h => h
def WebOk (n : Nat) (d : D) : Prop := ∃ ts, d = webD n ts ∧ Wb n ts
theorem tree_loop (hxs : ∀ x ∈ xs, x < n) (hl : xs.length ≤ 12) {k : List D → Nat → Prop} : ∀ (ks : List Nat) (acc : List D) (m : Nat), (∀ j ∈ ks, 0 < j ∧ j < xs.length) → PL n acc.length acc → acc.length + ks.length < 1000 → m + ks.length ≤ 1000000000 → (∀ ds m', m' ≤ m + ks.length → PL n (acc.length + ks.length) ds → k ds m') →
    forK (S := List D) (fun s25 k29 kk26 => ((tupM (consM (op2 dIx (lift (some (PyData.tuple (ofN xs)))) (drawM (consM (lift (some k29)) nilM) (G1 m__law_take))) (consM (lift (b2 dIx (some (PyData.tuple (ofN xs))) (some k29))) nilM))) fun d31 m => s25.length < sizeLine ∧ ((kk26 (s25 ++ [d31]))) m)) (ofN ks) acc k m
  | [], acc, m, _, hp, _, _, hk => hk acc m (Nat.le_refl _) hp
  | j :: ks, acc, m, hj, hp, hz, hm, hk => by
    rw [List.length_cons] at hz hm hk
    obtain ⟨j1, j2⟩ := hj j List.mem_cons_self
    have s1 : Sp 1 (op2 dIx (lift (some (PyData.tuple (ofN xs)))) (drawM (consM (lift (some (PyData.int (j : Nat)))) nilM) (G1 m__law_take))) (fun d => ∃ a : Nat, d = .int a ∧ a < n) :=
      (sp_op2 (sp_lift rfl) (sp_draw (k := 0) (n := j) (sp_lift rfl) j1 (by omega)) fun x y hx hy => by
        obtain ⟨v, rfl, hv⟩ := hy
        subst hx
        exact ⟨_, ix_tup (by omega), _, rfl, hxs _ (List.getElem_mem _)⟩).mono (by omega) fun _ h => h
    have s2 : Sp 0 (lift (b2 dIx (some (PyData.tuple (ofN xs))) (some (PyData.int (j : Nat))))) (fun d => ∃ a : Nat, d = .int a ∧ a < n) :=
      (sp_lift (ix_tup j2)).mono (Nat.le_refl _) fun d h => ⟨_, h, hxs _ (List.getElem_mem _)⟩
    rw [show ofN (j :: ks) = PyData.int j :: ofN ks from rfl, forK_cons]
    refine (sp_tup (sp_cons s1 (sp_cons s2 sp_nil))).use (by omega) fun d m1 hm1 hd => ?_
    obtain ⟨ds, rfl, a, r, rfl, ⟨u, rfl, hu⟩, b, r2, rfl, ⟨v, rfl, hv⟩, rfl⟩ := hd
    refine ⟨by rw [sizeLine_eq]; omega, ?_⟩
    have hp2 : PL n (acc ++ [PyData.tuple [.int (u : Nat), .int (v : Nat)]]).length (acc ++ [PyData.tuple [.int (u : Nat), .int (v : Nat)]]) := ⟨Nat.le_refl _, fun d hd => by
      rcases List.mem_append.mp hd with hd | hd
      · exact hp.2 d hd
      · rw [List.mem_singleton.mp hd]
        exact ⟨(u, v), rfl, hu, hv⟩⟩
    have e1 : (acc ++ [PyData.tuple [.int (u : Nat), .int (v : Nat)]]).length = acc.length + 1 := by rw [List.length_append, List.length_singleton]
    refine tree_loop hxs hl ks _ m1 (fun i hi => hj i (List.mem_cons_of_mem _ hi)) hp2 (by rw [e1]; omega) (by omega) fun ds m' hm' hds => hk ds m' (by omega) ?_
    rw [e1] at hds
    exact hds.mono (by omega)
end
section
variable {n : Nat} {xs : List Nat} {q : D → Nat → Prop} {m : Nat}
theorem mul_nat {a b : Nat} (ha : a < 1000000) (hb : b < 1000000) : b2 dMul (some (PyData.int a)) (some (.int b)) = some (.int ((a * b : Nat) : Int)) := by
  rw [mul_ok (by rw [Int.natAbs_natCast]; exact Nat.lt_trans ha (by decide)) (by rw [Int.natAbs_natCast]; exact Nat.lt_trans hb (by decide))]
  congr 2
theorem more_ix {w : Nat} (hw : w < 9) (h12 : n ≤ 12) : ∃ r : Nat, r ≤ 36 ∧ b2 dIx ((consO (some (PyData.int 0)) (consO (some (PyData.int 1)) (consO (some (PyData.int 0)) (consO (some (PyData.int 0)) (consO (some (PyData.int 0)) (consO (some (PyData.int 2)) (consO (some (PyData.int 3)) (consO (some (PyData.int (n : Nat))) (consO (b2 dMul (some (PyData.int 3)) (some (.int (n : Nat)))) (some [])))))))))).map PyData.list) (some (.int (w : Nat))) = some (.int (r : Nat)) := by
  have e : b2 dMul (some (PyData.int 3)) (some (.int (n : Nat))) = some (.int ((3 * n : Nat) : Int)) := mul_nat (a := 3) (by decide) (by omega)
  rw [e]
  have hl : w < [0, 1, 0, 0, 0, 2, 3, n, 3 * n].length := hw
  refine ⟨[0, 1, 0, 0, 0, 2, 3, n, 3 * n][w], ?_, ix_lst hl⟩
  have := List.getElem_mem hl
  generalize [0, 1, 0, 0, 0, 2, 3, n, 3 * n][w] = z at this
  simp only [List.mem_cons, List.not_mem_nil, or_false] at this
  omega
theorem tree_ok {w : Nat} (hw : w < 9) (h1 : 1 ≤ n) (h12 : n ≤ 12) (hxs : ∀ x ∈ xs, x < n) (hlen : xs.length = n) (hm : m + 100 ≤ 1000000000) (hq : ∀ d m', m' ≤ m + 100 → WebOk n d → q d m') : treeK q (.int (n : Nat)) (.int (w : Nat)) (.tuple (ofN xs)) [] m := by
  unfold treeK
  refine ⟨_, range2_items (a := 1) (by decide) (by omega), ?_⟩
  have hks : ((List.range (n - 1)).map fun i => i + 1).length = n - 1 := by rw [List.length_map, List.length_range]
  refine tree_loop hxs (by omega) _ [] m (fun j hj => ?_) ⟨Nat.le_refl _, fun _ h => nomatch h⟩ (by rw [hks, List.length_nil]; omega) (by rw [hks]; omega) fun ds m1 hm1 hds => ?_
  · obtain ⟨i, hi, rfl⟩ := List.mem_map.mp hj
    have := List.mem_range.mp hi
    omega
  rw [hks] at hm1 hds
  obtain ⟨r, hr, e⟩ := more_ix hw h12
  refine ⟨_, e, ?_⟩
  have hds2 : PL n 11 ds := hds.mono (by rw [List.length_nil]; omega)
  refine (sp_app (sp_cons (sp_lift (a := PyData.int (n : Nat)) rfl) (sp_cons (sp_op2 (f := dAdd) (Φ := fun d => ∃ es, d = .list es ∧ PL n 47 es) (sp_lift (a := PyData.list ds) rfl) (sp_lst (sp_pairs (L := 36) h1 h12 ((sp_lift (range_items (n := r) (by omega))).mono (Nat.le_refl _) fun es he => by rw [he, ofN_len, List.length_range]; exact hr) (by decide))) fun x y hx hy => ?_) sp_nil)) (F := F2 m__law_web) (Φ := WebOk n) fun as has => ?_).use (by omega) fun d m2 hm2 hd => hq d m2 (by omega) hd
  · obtain ⟨es, rfl, hes⟩ := hy
    subst hx
    obtain ⟨e1, e2⟩ := hds2.add (o := some (.list es)) hes rfl (by decide)
    exact ⟨_, e1, _, rfl, e2⟩
  · obtain ⟨d, r2, rfl, rfl, d2, r3, rfl, ⟨es, rfl, hes⟩, rfl⟩ := has
    obtain ⟨ts, e1, e2⟩ := hes.web rfl (by decide) h1 h12
    exact ⟨_, e1, ts, rfl, e2⟩
theorem ring_pairs {ys : List Nat} (h0 : 0 < ys.length) (hl : ys.length ≤ 12) (hys : ∀ y ∈ ys, y < n) : ∃ ds, (lcO (C1 (fun x => dRange [x]) (C1 dLen (some (PyData.tuple (ofN ys))))) fun k24 => turnO (some true) ((consO (b2 dIx (some (PyData.tuple (ofN ys))) (b2 dSub (some k24) (some (PyData.int 1)))) (consO (b2 dIx (some (PyData.tuple (ofN ys))) (some k24)) (some []))).map PyData.tuple)) = some ds ∧ PL n ys.length ds := by
  refine PL.lc (xs := List.range ys.length) (by rw [len_tup, range_items (by omega)]) (by rw [List.length_range]; exact Nat.le_refl _) (by omega) fun k hk => ?_
  have hk := List.mem_range.mp hk
  obtain ⟨y, hy, e⟩ := ix_neg hk h0
  exact ⟨(y, ys[k]), pair_ok e (ix_tup hk), hys y hy, hys _ (List.getElem_mem _)⟩
theorem take_eval (xs : List Nat) (k : Nat) : slO (some (.tuple (ofN xs))) (some none) ((some (PyData.int (k : Nat))).bind asI) = some (.tuple (ofN (xs.take k))) := by
  rw [asI_int, slO_some]
  show some (PyData.tuple (cutD _ none (some (k : Int)))) = _
  rw [cutD_lo]
  unfold ofN
  rw [List.map_take]
theorem drop_eval (xs : List Nat) (k : Nat) (h : k ≤ xs.length) : slO (some (.tuple (ofN xs))) ((some (PyData.int (k : Nat))).bind asI) (some none) = some (.tuple (ofN (xs.drop k))) := by
  rw [asI_int, slO_some]
  show some (PyData.tuple (cutD _ (some (k : Int)) none)) = _
  unfold cutD
  rw [HT.sIx_none, HT.sIx_nat, ofN_len, Nat.min_eq_left h]
  unfold ofN
  rw [List.map_drop, List.take_of_length_le (by simp)]
theorem ring_ok (h4 : 4 < n) (h12 : n ≤ 12) (hxs : ∀ x ∈ xs, x < n) (hlen : xs.length = n) (hm : m + 100 ≤ 1000000000) (hq : ∀ d m', m' ≤ m + 100 → WebOk n d → q d m') : ringK q (.int (n : Nat)) (.tuple (ofN xs)) [] m := by
  unfold ringK
  have e4 : b2 dSub (some (PyData.int (n : Nat))) (some (PyData.int 4)) = some (.int ((n - 4 : Nat) : Int)) := sub_nat (a := n) (b := 4) (by omega)
  refine (sp_op2 (f := dAdd) (Φ := fun d => ∃ h : Nat, d = .int h ∧ 2 ≤ h ∧ h < n - 2) (sp_lift (a := PyData.int 2) rfl) (sp_draw (k := 0) (sp_lift e4) (by omega) (by omega)) fun x y hx hy => ?_).use (by omega) fun d m1 hm1 hd => ?_
  · obtain ⟨v, rfl, hv⟩ := hy
    subst hx
    exact ⟨_, add_nat 2 v, _, rfl, by omega, by omega⟩
  obtain ⟨h, rfl, hh1, hh2⟩ := hd
  have e1 : slO (some (PyData.tuple (ofN xs))) (some none) ((b2 dAdd (some (PyData.int (h : Nat))) (some (PyData.int 1))).bind asI) = some (.tuple (ofN (xs.take (h + 1)))) := by
    have e : b2 dAdd (some (PyData.int (h : Nat))) (some (PyData.int 1)) = some (.int ((h + 1 : Nat) : Int)) := add_nat h 1
    rw [e]
    exact take_eval xs (h + 1)
  refine ⟨_, by rw [e1, drop_eval xs h (by omega)]; rfl, ?_⟩
  refine ⟨_, rfl, ?_⟩
  have l1 : (xs.take (h + 1)).length = h + 1 := by rw [List.length_take]; omega
  have l2 : (xs.drop h).length = n - h := by rw [List.length_drop]; omega
  obtain ⟨d1, p1, p2⟩ := ring_pairs (n := n) (ys := xs.take (h + 1)) (by omega) (by omega) fun y hy => hxs y (List.mem_of_mem_take hy)
  obtain ⟨d2, p3, p4⟩ := ring_pairs (n := n) (ys := xs.drop h) (by omega) (by omega) fun y hy => hxs y (List.mem_of_mem_drop hy)
  obtain ⟨r1, r2⟩ := PL.add (n := n) (L := 0) (ds := []) ⟨Nat.le_refl _, fun _ h => nomatch h⟩ p2 (o := some (.list d1)) rfl (by omega)
  obtain ⟨r3, r4⟩ := r2.add p4 (o := some (.list d2)) rfl (by omega)
  refine ⟨_, by rw [p1]; exact r1, ?_⟩
  refine ⟨_, by rw [p3]; exact r3, ?_⟩
  obtain ⟨ts, e5, e6⟩ := r4.web rfl (by omega) (by omega) h12
  exact ⟨_, e5, hq _ _ (by omega) ⟨ts, rfl, e6⟩⟩
end
theorem sp_drawOrder {n : Nat} (h : n < 100000) : Sp n (drawM (consM (lift (some (PyData.int (n : Nat)))) nilM) (G1 m__law_draw_order)) (fun d => ∃ xs : List Nat, d = .tuple (ofN xs) ∧ xs.Perm (List.range n)) := fun q m hm hq => ⟨_, rfl, sp_order h q m hm hq⟩
theorem path_pairs {n a : Nat} {xs : List Nat} (ha : 1 ≤ a) (hn : n ≤ 12) (hlen : xs.length = n) (hxs : ∀ x ∈ xs, x < n) {o : Option (List D)} (ho : o = some (ofN ((List.range (n - a)).map fun i => i + a))) : ∃ ds, lcO o (fun k14 => turnO (some true) ((consO (b2 dIx (some (PyData.tuple (ofN xs))) (b2 dSub (some k14) (some (PyData.int 1)))) (consO (b2 dIx (some (PyData.tuple (ofN xs))) (some k14)) (some []))).map PyData.tuple)) = some ds ∧ PL n 12 ds := by
  refine PL.lc ho (by rw [List.length_map, List.length_range]; omega) (by omega) fun k hk => ?_
  obtain ⟨i, hi, rfl⟩ := List.mem_map.mp hk
  have hi := List.mem_range.mp hi
  obtain ⟨y, hy, e⟩ := ix_neg (xs := xs) (k := i + a) (by omega) (by omega)
  exact ⟨(y, xs[i + a]), pair_ok e (ix_tup (by omega)), hxs y hy, hxs _ (List.getElem_mem _)⟩
theorem star_pairs {n : Nat} {xs : List Nat} (hn : n ≤ 12) (h1 : 1 ≤ n) (hlen : xs.length = n) (hxs : ∀ x ∈ xs, x < n) : ∃ ds, lcO ((some (PyData.tuple (ofN xs))).bind dItems) (fun other15 => turnO (some true) ((consO (b2 dIx (some (PyData.tuple (ofN xs))) (some (PyData.int 0))) (consO (some other15) (some []))).map PyData.tuple)) = some ds ∧ PL n 12 ds := by
  refine PL.lc (xs := xs) rfl (by omega) (by omega) fun x hx => ?_
  have e : b2 dIx (some (PyData.tuple (ofN xs))) (some (PyData.int 0)) = some (.int ((xs[0]'(by omega) : Nat) : Int)) := ix_tup (xs := xs) (i := 0) (by omega)
  exact ⟨(xs[0]'(by omega), x), pair_ok e rfl, hxs _ (List.getElem_mem _), hxs x hx⟩
theorem two_ties {n a b : Nat} {oa ob : Option D} (ha : oa = some (.int (a : Nat))) (hb : ob = some (.int (b : Nat))) (h1 : a < n) (h2 : b < n) : ∃ ds, (consO ((consO oa (consO ob (some []))).map PyData.tuple) (some [])).map PyData.list = some (.list ds) ∧ PL n 1 ds := by
  refine ⟨[tieD (a, b)], ?_, Nat.le_refl _, fun d hd => ?_⟩
  · rw [pair_ok ha hb]; rfl
  · rw [List.mem_singleton.mp hd]
    exact ⟨(a, b), rfl, h1, h2⟩
theorem gt_nat (a b : Nat) : b2 dGt (some (PyData.int a)) (some (.int b)) = some (.bool (decide (b < a))) := by
  show some (PyData.bool (decide ((b : Int) < (a : Int)))) = _
  congr 2
  rw [Bool.eq_iff_iff]
  simp only [decide_eq_true_eq]
  omega
theorem one_or {n : Nat} : b2 dMul (some (PyData.int 1)) (C1 dInt (b2 dGt (some (PyData.int (n : Nat))) (some (PyData.int 1)))) = some (.int ((if 1 < n then 1 else 0 : Nat) : Int)) := by
  have e : b2 dGt (some (PyData.int (n : Nat))) (some (PyData.int 1)) = some (.bool (decide (1 < n))) := gt_nat n 1
  rw [e]
  by_cases h : 1 < n
  · rw [decide_eq_true h, if_pos h]
    exact mul_nat (a := 1) (b := 1) (by decide) (by decide)
  · rw [decide_eq_false h, if_neg h]
    exact mul_nat (a := 1) (b := 0) (by decide) (by decide)
theorem rep_list {ds : List D} {k : Nat} {o o2 : Option D} (ho : o = some (.list ds)) (ho2 : o2 = some (.int (k : Nat))) (hk : k < 1000) (hl : ds.length < 1000) : C2 dRepL o o2 = some (List.replicate k ds).flatten := by
  subst ho; subst ho2
  rw [c2_some]
  unfold dRepL
  simp only
  rw [if_pos]
  · rw [Int.toNat_natCast]
  · rw [decide_eq_true_eq, Int.toNat_natCast, sizeLine_eq]
    have : ds.length * k ≤ 1000 * 1000 := Nat.mul_le_mul (by omega) (by omega)
    omega
theorem last_pairs {n w : Nat} {xs : List Nat} (hw : w = 2 ∨ w = 3) (h1 : 1 ≤ n) (h12 : n ≤ 12) (hlen : xs.length = n) (hxs : ∀ x ∈ xs, x < n) : ∃ ds, (C2 dRepL ((consO ((consO (b2 dIx (some (PyData.tuple (ofN xs))) (some (PyData.int 0))) (consO (b2 dIx (some (PyData.tuple (ofN xs))) (b2 dSub (some (PyData.int (n : Nat))) (some (PyData.int 1)))) (some []))).map PyData.tuple) (some [])).map PyData.list) (b2 dSub (some (PyData.int (w : Nat))) (some (PyData.int 2)))).map PyData.list = some (.list ds) ∧ PL n 1 ds := by
  have e0 : b2 dIx (some (PyData.tuple (ofN xs))) (some (PyData.int 0)) = some (.int ((xs[0]'(by omega) : Nat) : Int)) := ix_tup (xs := xs) (i := 0) (by omega)
  have es : b2 dSub (some (PyData.int (n : Nat))) (some (PyData.int 1)) = some (.int ((n - 1 : Nat) : Int)) := sub_nat (a := n) (b := 1) (by omega)
  have e1 : b2 dIx (some (PyData.tuple (ofN xs))) (b2 dSub (some (PyData.int (n : Nat))) (some (PyData.int 1))) = some (.int ((xs[n - 1]'(by omega) : Nat) : Int)) := by
    rw [es]
    exact ix_tup (by omega)
  obtain ⟨ds, e2, hd⟩ := two_ties (n := n) e0 e1 (hxs _ (List.getElem_mem _)) (hxs _ (List.getElem_mem _))
  have ew : b2 dSub (some (PyData.int (w : Nat))) (some (PyData.int 2)) = some (.int ((w - 2 : Nat) : Int)) := sub_nat (a := w) (b := 2) (by omega)
  have hl := hd.1
  rw [rep_list e2 ew (by omega) (by omega)]
  refine ⟨_, rfl, ?_⟩
  rcases hw with rfl | rfl
  · exact ⟨Nat.zero_le _, fun _ h => nomatch h⟩
  · show PL n 1 (List.replicate 1 ds).flatten
    simp only [List.replicate_succ, List.replicate_zero, List.flatten_cons, List.flatten_nil, List.append_nil]
    exact hd
theorem ifK_t {o : Option Bool} {A B : Nat → Prop} {m : Nat} (h : o = some true) (hA : A m) : ifK (lift o) A B m := ⟨true, h, hA⟩
theorem ifK_f {o : Option Bool} {A B : Nat → Prop} {m : Nat} (h : o = some false) (hB : B m) : ifK (lift o) A B m := ⟨false, h, hB⟩
theorem sp_web {lo hi : Nat} (h1 : 1 ≤ lo) (h2 : lo ≤ hi) (h3 : hi ≤ 12) : Sp 200 (m__law_draw_web (.int lo) (.int hi)) (fun d => ∃ n ts, d = webD n ts ∧ Wb n ts ∧ lo ≤ n ∧ n ≤ hi) := fun q m hm hq => by
  unfold m__law_draw_web
  have e1 : b2 dAdd (b2 dSub (some (PyData.int (hi : Nat))) (some (.int (lo : Nat)))) (some (PyData.int 1)) = some (.int ((hi - lo + 1 : Nat) : Int)) := by
    rw [sub_nat h2]
    exact add_nat (hi - lo) 1
  refine (sp_op2 (f := dAdd) (Φ := fun d => ∃ n : Nat, d = .int n ∧ lo ≤ n ∧ n ≤ hi) (sp_lift (a := PyData.int (lo : Nat)) rfl) (sp_draw (k := 0) (sp_lift e1) (by omega) (by omega)) fun x y hx hy => ?_).useD (by omega) fun d m1 hm1 hd => ?_
  · obtain ⟨v, rfl, hv⟩ := hy
    subst hx
    exact ⟨_, add_nat lo v, _, rfl, by omega, by omega⟩
  obtain ⟨n, rfl, n1, n2⟩ := hd
  refine (sp_draw (k := 0) (n := 9) (sp_lift (a := PyData.int 9) rfl) (by decide) (by decide)).useD (by omega) fun d m2 hm2 hd => ?_
  obtain ⟨w, rfl, hw⟩ := hd
  refine (sp_drawOrder (n := n) (by omega)).useD (by omega) fun d m3 hm3 hd => ?_
  obtain ⟨xs, rfl, hp⟩ := hd
  have hlen : xs.length = n := by rw [hp.length_eq, List.length_range]
  have hxs : ∀ x ∈ xs, x < n := fun x hx => List.mem_range.mp (hp.mem_iff.mp hx)
  have fin : ∀ d m', m' ≤ m3 + 100 → WebOk n d → q d m' := fun d m' hm' ⟨ts, hd, W⟩ => hq d m' (by omega) ⟨n, ts, hd, W, n1, n2⟩
  refine ⟨[], rfl, ?_⟩
  dsimp only [nilCM, cel2M, onDM, onLM]
  by_cases w0 : w = 0
  · subst w0
    refine ifK_t rfl ?_
    refine (sp_lst (sp_pairs (n := n) (L := 12) (by omega) (by omega) (k2 := 1) (sp_app (F := dRange) (Φ := fun es => es.length ≤ 12) (sp_cons (sp_draw (k := 0) (n := n + 1) (sp_lift (by exact add_nat n 1)) (by omega) (by omega)) sp_nil) fun as has => ?_) (by decide))).use (by omega) fun d m4 hm4 hd => ?_
    · obtain ⟨d, r, rfl, ⟨v, rfl, hv⟩, rfl⟩ := has
      have : dRange [PyData.int (v : Nat)] = some _ := (c1_some (fun x => dRange [x]) _).symm.trans (range_items (n := v) (by omega))
      exact ⟨_, this, by rw [ofN_len, List.length_range]; omega⟩
    obtain ⟨es, rfl, hes⟩ := hd
    obtain ⟨ts, e5, e6⟩ := hes.web rfl (by decide) (by omega) (by omega)
    exact ⟨_, e5, fin _ _ (by omega) ⟨ts, rfl, e6⟩⟩
  have f0 : (b2 dEq (some (PyData.int (w : Nat))) (some (PyData.int 0))).bind asB = some false := by
    have := eq_nat w 0
    rw [decide_eq_false w0] at this
    exact congrArg (·.bind asB) this
  refine ifK_f f0 ?_
  have e23 : (b2 (dIn false) (some (PyData.int (w : Nat))) ((consO (some (PyData.int 2)) (consO (some (PyData.int 3)) (some []))).map PyData.list)).bind asB = some (decide (w ∈ [2, 3])) := congrArg (·.bind asB) (in_lst w [2, 3])
  by_cases w2 : w ∈ [2, 3]
  · rw [decide_eq_true w2] at e23
    have w23 : w = 2 ∨ w = 3 := by simpa using w2
    refine ifK_t e23 ?_
    have e4 : b2 dSub (some (PyData.int 4)) (some (PyData.int (w : Nat))) = some (.int ((4 - w : Nat) : Int)) := sub_nat (a := 4) (b := w) (by omega)
    obtain ⟨d1, p1, p2⟩ := path_pairs (n := n) (a := 4 - w) (xs := xs) (by omega) (by omega) hlen hxs (o := C2 (fun x y => dRange [x, y]) (b2 dSub (some (PyData.int 4)) (some (PyData.int (w : Nat)))) (some (PyData.int (n : Nat)))) (by rw [e4]; exact range2_items (by omega) (by omega))
    have e0 : b2 dIx (some (PyData.tuple (ofN xs))) (some (PyData.int 0)) = some (.int ((xs[0]'(by omega) : Nat) : Int)) := ix_tup (xs := xs) (i := 0) (by omega)
    have hif : (if 1 < n then 1 else 0) < xs.length := by split <;> omega
    obtain ⟨d2, p3, p4⟩ := two_ties (n := n) e0 (ob := b2 dIx (some (PyData.tuple (ofN xs))) (b2 dMul (some (PyData.int 1)) (C1 dInt (b2 dGt (some (PyData.int (n : Nat))) (some (PyData.int 1)))))) (by rw [one_or]; exact ix_tup hif) (hxs _ (List.getElem_mem _)) (hxs _ (List.getElem_mem _))
    obtain ⟨p5, p6⟩ := p2.add p4 p3 (by decide)
    refine ⟨_, by rw [p1]; exact p5, ?_⟩
    obtain ⟨d3, p7, p8⟩ := last_pairs (n := n) w23 (by omega) (by omega) hlen hxs
    obtain ⟨p9, p10⟩ := p6.add p8 p7 (by decide)
    obtain ⟨ts, e5, e6⟩ := p10.web p9 (by decide) (by omega) (by omega)
    exact ⟨_, e5, fin _ _ (by omega) ⟨ts, rfl, e6⟩⟩
  rw [decide_eq_false w2] at e23
  refine ifK_f e23 ?_
  by_cases w4 : w = 4
  · subst w4
    refine ifK_t rfl ?_
    obtain ⟨d1, p1, p2⟩ := star_pairs (n := n) (xs := xs) (by omega) (by omega) hlen hxs
    obtain ⟨ts, e5, e6⟩ := p2.web (o := some (.list d1)) rfl (by decide) (by omega) (by omega)
    exact ⟨_, by rw [p1]; exact e5, fin _ _ (by omega) ⟨ts, rfl, e6⟩⟩
  have f4 : (b2 dEq (some (PyData.int (w : Nat))) (some (PyData.int 4))).bind asB = some false := by
    have := eq_nat w 4
    rw [decide_eq_false w4] at this
    exact congrArg (·.bind asB) this
  refine ifK_f f4 ?_
  have f5 : (b2 dEq (some (PyData.int (w : Nat))) (some (PyData.int 5))).bind asB = some (decide (w = 5)) := congrArg (·.bind asB) (eq_nat w 5)
  have f6 : (b2 dGt (some (PyData.int (n : Nat))) (some (PyData.int 4))).bind asB = some (decide (4 < n)) := congrArg (·.bind asB) (gt_nat n 4)
  by_cases w5 : w = 5 ∧ 4 < n
  · refine ifK_t (by rw [f5, f6, andO_some, decide_eq_true w5.1, decide_eq_true w5.2]; rfl) ?_
    exact ring_ok (q := q) w5.2 (by omega) hxs hlen (by omega) fin
  · refine ifK_f ?_ ?_
    · rw [f5, f6, andO_some]
      congr 1
      rw [Bool.and_eq_false_iff]
      simp only [decide_eq_false_iff_not]
      omega
    · exact tree_ok (q := q) hw (by omega) (by omega) hxs hlen (by omega) fin
end Dl

set_option Elab.async false
set_option linter.all false
set_option autoImplicit false
set_option maxRecDepth 100000
set_option maxHeartbeats 2000000
namespace Dl
open PySem L2 PySem.Spec PyProof.Rows PySem.Calls
open AutoSeq1 (wpAny_loadPart')
section
variable {prog : Program} {w : World} {A : Around} {E : Value → Shared → Prop} {s : Shared}
end
section
variable {X : Cx} {R : Res} {ρ : List Cell} {a : Expr} {pos : Pos}
end
end Dl

set_option Elab.async false
set_option linter.all false
set_option autoImplicit false
set_option maxRecDepth 100000
set_option maxHeartbeats 1000000
namespace Dl
open PySem L2
structure Deal (n : Nat) (rs ss : List Nat) : Prop where
  lo : 1 ≤ rs.length
  hi : rs.length ≤ n
  nd : rs.Nodup
  lt : ∀ r ∈ rs, r < n
  len : ss.length = rs.length
  pos : ∀ s ∈ ss, 1 ≤ s
  sum : ss.sum = n
mutual
def nice : D → Bool
  | .none => true
  | .bool _ => true
  | .int i => decide (i.natAbs < 10 ^ 60)
  | .str y => decide (y.cps.size ≤ 100) && y.cps.toList.all fun c => decide (c < 16 ^ 8)
  | .list ds => niceL ds
  | .tuple ds => niceL ds
  | .dict kvs => kvs.isEmpty
def niceL : List D → Bool
  | [] => true
  | d :: ds => nice d && niceL ds
end
mutual
def cnt : D → Nat
  | .list ds => 1 + cntL ds
  | .tuple ds => 1 + cntL ds
  | _ => 1
def cntL : List D → Nat
  | [] => 0
  | d :: ds => cnt d + cntL ds
end
theorem log_small {n : Nat} (h : n < 10 ^ 60) : n.log2 < 200 := by
  by_cases z : n = 0
  · subst z; decide
  · exact (Nat.log2_lt z).mpr (Nat.lt_trans h (by decide))
mutual
theorem nice_all : ∀ d : D, nice d = true → PyData.leavesShort 61 d = true ∧ PyData.weight d + 1 ≤ 211 * cnt d ∧ PyData.showable d = true
  | .none, _ => ⟨rfl, by simp [PyData.weight, cnt], rfl⟩
  | .bool _, _ => ⟨rfl, by simp [PyData.weight, cnt], rfl⟩
  | .int i, h => by
    have hn : i.natAbs < 10 ^ 60 := of_decide_eq_true h
    have hl := log_small hn
    have ht : (PyData.shown (.int i)).length ≤ 61 := by
      show (Str.ofString (toString i)).length ≤ 61
      rw [ofString_length]
      exact int_text_length_le10 (k := 60) (by decide) hn
    refine ⟨by simpa [PyData.leavesShort] using ht, ?_, ?_⟩
    · simp only [PyData.weight, cnt]
      split <;> omega
    · simp only [PyData.showable, decide_eq_true_eq]
      omega
  | .str y, h => by
    simp only [nice, Bool.and_eq_true, decide_eq_true_eq] at h
    exact ⟨by simpa [PyData.leavesShort] using h.2, by simp only [PyData.weight, cnt]; omega, rfl⟩
  | .list ds, h => by
    obtain ⟨h1, h2, h3⟩ := niceL_all ds h
    exact ⟨by simpa [PyData.leavesShort] using h1, by simp only [PyData.weight, cnt]; omega, by simpa [PyData.showable] using h3⟩
  | .tuple ds, h => by
    obtain ⟨h1, h2, h3⟩ := niceL_all ds h
    exact ⟨by simpa [PyData.leavesShort] using h1, by simp only [PyData.weight, cnt]; omega, by simpa [PyData.showable] using h3⟩
  | .dict [], _ => ⟨rfl, by simp [PyData.weight, PyData.weightKv, cnt], rfl⟩
theorem niceL_all : ∀ ds : List D, niceL ds = true → PyData.leavesShortAll 61 ds = true ∧ PyData.weightAll ds ≤ 211 * cntL ds ∧ PyData.showableAll ds = true
  | [], _ => ⟨rfl, by simp [PyData.weightAll], rfl⟩
  | d :: ds, h => by
    simp only [niceL, Bool.and_eq_true] at h
    obtain ⟨a1, a2, a3⟩ := nice_all d h.1
    obtain ⟨b1, b2, b3⟩ := niceL_all ds h.2
    have hc : 1 ≤ cnt d := by cases d <;> simp [cnt]
    refine ⟨by simp [PyData.leavesShortAll, a1, b1], ?_, by simp [PyData.showableAll, a3, b3]⟩
    simp only [PyData.weightAll, cntL]
    omega
end
mutual
theorem nice_rep : ∀ d : D, nice d = true → repB d = true
  | .none, _ => rfl
  | .bool _, _ => rfl
  | .int _, _ => rfl
  | .str _, _ => rfl
  | .list ds, h => by simpa only [repB] using niceL_rep ds (by simpa only [nice] using h)
  | .tuple ds, h => by simpa only [repB] using niceL_rep ds (by simpa only [nice] using h)
  | .dict kvs, h => by simpa only [repB, nice] using h
theorem niceL_rep : ∀ ds : List D, niceL ds = true → repBs ds = true
  | [], _ => rfl
  | d :: ds, h => by
    simp only [niceL, Bool.and_eq_true] at h
    simp only [repBs, Bool.and_eq_true]
    exact ⟨nice_rep d h.1, niceL_rep ds h.2⟩
end
theorem repr_ok {d : D} (hn : nice d = true) (hc : cnt d ≤ 1000) (hd : d.depth ≤ 60) : ∃ T : Str, C1 dRepr (some d) = some (.str T) := by
  obtain ⟨a1, a2, a3⟩ := nice_all d hn
  have hl := PyData.shown_le 61 (by decide) d a1
  have hz : d.shown.length ≤ sizeLine := by rw [sizeLine_eq]; omega
  refine ⟨d.shown, ?_⟩
  rw [c1_some]
  unfold dRepr
  rw [if_pos]
  rw [nice_rep d hn, a3, decide_eq_true hd, decide_eq_true hz]
  rfl
theorem niceL_map {α : Type} {g : α → D} : ∀ xs : List α, (∀ x ∈ xs, nice (g x) = true) → niceL (xs.map g) = true
  | [], _ => rfl
  | x :: xs, h => by
    simp only [List.map_cons, niceL, Bool.and_eq_true]
    exact ⟨h x List.mem_cons_self, niceL_map xs fun y hy => h y (List.mem_cons_of_mem _ hy)⟩
theorem cntL_map {α : Type} {g : α → D} {c : Nat} : ∀ xs : List α, (∀ x ∈ xs, cnt (g x) ≤ c) → cntL (xs.map g) ≤ xs.length * c
  | [], _ => by simp [cntL]
  | x :: xs, h => by
    have h1 := h x List.mem_cons_self
    have h2 := cntL_map xs fun y hy => h y (List.mem_cons_of_mem _ hy)
    simp only [List.map_cons, cntL, List.length_cons]
    have : (xs.length + 1) * c = xs.length * c + c := by rw [Nat.add_mul, Nat.one_mul]
    omega
theorem depthAll_map {α : Type} {g : α → D} {c : Nat} : ∀ xs : List α, (∀ x ∈ xs, (g x).depth ≤ c) → PyData.depthAll (xs.map g) ≤ c
  | [], _ => by simp [PyData.depthAll]
  | x :: xs, h => by
    have h1 := h x List.mem_cons_self
    have h2 := depthAll_map xs fun y hy => h y (List.mem_cons_of_mem _ hy)
    simp only [List.map_cons, PyData.depthAll]
    omega
theorem big60 : (1000000 : Nat) < 10 ^ 60 := by decide
theorem nice_nat {a : Nat} (h : a < 1000000) : nice (.int (a : Nat)) = true := by
  simp only [nice, decide_eq_true_eq, Int.natAbs_natCast]
  exact Nat.lt_trans h big60
theorem nice_web {n : Nat} {ts : List (Nat × Nat)} (W : Wb n ts) : nice (webD n ts) = true ∧ cnt (webD n ts) ≤ 400 ∧ (webD n ts).depth ≤ 3 := by
  have hi := W.hi
  have h1 : niceL (ts.map tieD) = true := niceL_map ts fun t ht => by
    have := W.ord t ht
    have e1 := nice_nat (a := t.1) (by omega)
    have e2 := nice_nat (a := t.2) (by omega)
    simp [tieD, nice, niceL] at *
    exact ⟨e1, e2⟩
  have h2 := cntL_map (g := tieD) (c := 3) ts fun t _ => by simp [tieD, cnt, cntL]
  have h3 := depthAll_map (g := tieD) (c := 1) ts fun t _ => by simp [tieD, PyData.depth, PyData.depthAll]
  have hf := W.few
  have e := nice_nat (a := n) (by omega)
  refine ⟨?_, ?_, ?_⟩
  · show (nice (.int (n : Nat)) && (nice (.tuple (ts.map tieD)) && true)) = true
    rw [e]
    show (true && (niceL (ts.map tieD) && true)) = true
    rw [h1]
    rfl
  · simp only [webD, cnt, cntL]
    omega
  · simp only [webD, PyData.depth, PyData.depthAll]
    omega
end Dl

set_option Elab.async false
set_option linter.all false
set_option autoImplicit false
set_option maxRecDepth 100000
set_option maxHeartbeats 4000000
namespace Dl
open PySem L2 PySem.Spec PyProof.Rows
/-- what D[y] = z by a comprehension leaves -/
def PutOk (P : Program) (w : World) (A : Around) (D : Addr) (y z : V) (H H' : Hp) : Prop := ∀ (X : Cx), X.prog = P → X.w = w → X.A = A → ∀ (pins : List (Addr × Obj)) (σ : L2.St) (s : Shared) (E : Value → Shared → Prop) (u r : Value) (Q : Unit → Shared → Prop),
  L2.Inv X pins σ H s → RelV y u → RelV z r → (∀ t, L2.Inv X pins σ H' t → Q () t) → wpAny (model P w) A (dictSet D u r) Q E s
end Dl
namespace Dl
open PySem L2 PySem.Spec PyProof.Rows
section
variable {X : Cx}
end
end Dl
namespace Dl
open PySem L2 PySem.Spec PyProof.Rows PySem.Calls
open PySem.W (AllAlike Sortable alike)
section
variable {P : Program} {w : World} {A : Around} {E : Value → Shared → Prop} {s : Shared}
end
section
variable {X : Cx}
end
end Dl
namespace Dl
open PySem L2
def insK {κ : Type} [DecidableEq κ] (ks : List κ) (k : κ) : List κ := if k ∈ ks then ks else ks ++ [k]
theorem putK_keys {κ : Type} [DecidableEq κ] {kvs : List (κ × V)} (k : κ) (v : V) : (putK kvs k v).map (·.1) = insK (kvs.map (·.1)) k := by
  unfold putK insK
  have e : (kvs.any fun kv => decide (kv.1 = k)) = true ↔ k ∈ kvs.map (·.1) := by
    rw [List.any_eq_true, List.mem_map]
    simp
  by_cases h : k ∈ kvs.map (·.1)
  · rw [if_pos (e.mpr h), if_pos h, List.map_map]
    refine List.map_congr_left fun p _ => ?_
    simp only [Function.comp]
    split <;> rfl
  · rw [if_neg fun z => h (e.mp z), if_neg h, List.map_append]
    rfl
theorem ins_map {α β : Type} [DecidableEq α] [DecidableEq β] {f : α → β} (inj : ∀ a b, f a = f b → a = b) (ks : List α) (k : α) : insK (ks.map f) (f k) = (insK ks k).map f := by
  unfold insK
  by_cases h : k ∈ ks
  · rw [if_pos h, if_pos (List.mem_map_of_mem h)]
  · rw [if_neg h, if_neg, List.map_append]
    · rfl
    · intro e
      obtain ⟨b, hb, e⟩ := List.mem_map.mp e
      exact h (inj _ _ e ▸ hb)
/-- a kind of keys -/
structure KD (P : Program) (w : World) (A : Around) (κ : Type) [DecidableEq κ] where
  enc : κ → D
  of : D → Option κ
  of_eq : ∀ {d : D} {k : κ}, of d = some k → d = enc k
  ho : Hp → Addr → List κ → HO → Prop
  nil : ∀ (G : Hp) (Dl : Addr), ∃ O0 : HO, (∀ (H : Hp) (h : Heap), PySem.sysModules < h.objs.size → h.objs.size = Dl → ObjOk P w H (h.push { cls := .type "dict", data := .dict #[] }) h.objs.size O0) ∧ ho G Dl [] O0
  mono : ∀ {G G' : Hp} {Dl : Addr} {ks : List κ} {O : HO}, Same G G' → ho G Dl ks O → ho G' Dl ks O
  put : ∀ {ks : List κ} {O : HO} {G H : Hp} {Dl : Addr} {v : V} {k : κ}, A.units + 64 < cLine → ho G Dl ks O → Same G H → H Dl = some O → ks.length < sizeLine → Rp G v (enc k) → ∃ O', PutOk P w A Dl v (.bl true) H (upd H Dl O') ∧ ho G Dl (insK ks k) O'
section
variable {P : Program} {w : World} {A : Around} {κ : Type} [DecidableEq κ]
def tKs (K : KD P w A κ) (R : Res) (ρ : List Cell) (T : M (List κ)) : TE := fun σ H Q => ∃ G m q, Sit R σ ρ G H m ∧ T q m ∧ ∀ p O as G' H' m', Sit R σ ρ G' H' m' → Grow R.vol G H G' H' → H p = none → G' p = none → H' p = some O → K.ho G' p (as.foldl insK []) O → q as m' → Q (.ref p) H'
variable {X : Cx} {R : Res} {ρ : List Cell} {tg iter kx : Expr} {ifs : List Expr} {scope : Scope} {own : List (Str × Nat)} {pos : Pos}
end
end Dl
namespace Dl
open PySem L2
section
variable {X : Cx} {R : Res} {ρ : List Cell} {tg iter kx : Expr} {ifs : List Expr} {scope : Scope} {own : List (Str × Nat)} {pos pos2 p pc : Pos} {j : Nat}
variable {k : Nat}
end
end Dl

set_option Elab.async false
set_option linter.all false
set_option autoImplicit false
set_option maxRecDepth 100000
set_option maxHeartbeats 1000000
namespace Dl
open PySem L2
section
variable {X : Cx} {R : Res} {ρ : List Cell} {iter elt iter1 : Expr} {ifs1 : List Expr} {scope : Scope} {own : List (Str × Nat)} {pos px py : Pos} {i0 i1 : Nat} {x y : Str}
/-- the two targets' cells -/
def c1 (ρ : List Cell) (own : List (Str × Nat)) (i0 : Nat) (d : D) : List Cell := (wipeC ρ (own.map (·.2))).set i0 (.dat d)
def c2 (ρ : List Cell) (own : List (Str × Nat)) (i0 i1 : Nat) (d e : D) : List Cell := (wipeC (c1 ρ own i0 d) [i1]).set i1 (.dat e)
theorem Sit.updN {σ : L2.St} {G H : Hp} {m : Nat} {p : Addr} {o : HO} (S : Sit R σ ρ G H m) (hG : G p = none) (hv : ¬ R.vol p) (own : ∀ (i : Nat) (ds : D) (l : Addr), ρ[i]? = some (.ow ds) → σ[i]? = some (some (.ref l)) → l ≠ p) : Sit R σ ρ G (upd H p o) m where
  gh := fun a u h => by rw [upd_ne (ne_of_none h hG)]; exact S.gh a u h
  vg := S.vg
  vh := fun a v => by rw [upd_ne fun e : a = p => hv (e ▸ v)]; exact S.vh a v
  js := S.js
  jd := R.dm (fun a v => upd_ne fun e : a = p => hv (e ▸ v)) S.jd
  en := fun a h => by
    by_cases e : a = p
    · subst e; rw [upd_same] at h; cases h
    · rw [upd_ne e] at h; exact S.en a h
  len := S.len
  cell := fun i c hc => by
    have h := S.cell i c hc
    cases c with
    | no => trivial
    | dat d => exact h
    | raw v => exact h
    | ow ds =>
      obtain ⟨l, vs, a1, a2, a3, a4, a5, a6⟩ := h
      exact ⟨l, vs, a1, a2, a3, a4, by rw [upd_ne (own i ds l hc a1)]; exact a5, a6⟩
  apart := S.apart
end
section
variable {X : Cx} {R : Res} {ρ : List Cell} {iter elt iter1 : Expr} {ifs1 : List Expr} {scope : Scope} {own : List (Str × Nat)} {pos px py : Pos} {i0 i1 k : Nat} {x y : Str}
end
end Dl

set_option Elab.async false
set_option linter.all false
set_option autoImplicit false
set_option maxRecDepth 100000
set_option maxHeartbeats 1000000
namespace Dl
open PySem L2
@[irreducible] def m__law_full (n1 : D) : Option (D) :=
  (((some []).map PyData.list).bind fun ties2 => ((C1 (fun x => dRange [x]) (some n1)).bind fun ds => forO (S := D) (fun s3 a7 kk4 => ((b2 dAdd (some s3) ((lcO (C2 (fun x y => dRange [x, y]) (b2 dAdd (some a7) (some (PyData.int 1))) (some n1)) fun b9 => turnO (some true) ((consO (some a7) (consO (some b9) (some []))).map PyData.tuple)).map PyData.list)).bind fun ties8 => (kk4 ties8))) ds ties2 fun s6 => ((consO (some n1) (consO (C1 dTup (some s6)) (some []))).map PyData.tuple)))
def rowN (xs : List Nat) : List Int := xs.map fun (i : Nat) => (i : Int)
section
variable {n : Nat} {ts : List (Nat × Nat)} {lot : List Nat}
theorem piece_self {p : Nat} (hp : p < n) : p ∈ piece n ts lot p := (piece_mem hp).mpr .base
theorem Rch.trans {a b c : Nat} (h1 : Rch n ts lot a b) (h2 : Rch n ts lot b c) : Rch n ts lot a c := by
  induction h2 with
  | base => exact h1
  | step _ h3 h4 ih => exact .step ih h3 h4
theorem Rch.symm (W : Wb n ts) {p x : Nat} (hp : p ∈ lot) (h : Rch n ts lot p x) : Rch n ts lot x p := by
  induction h with
  | base => exact .base
  | @step x y hx h1 h2 ih =>
    have hxl : x ∈ lot := (List.mem_cons.mp hx.mem).elim (fun e => e ▸ hp) id
    exact (Rch.step .base (nbr_symm W h1) hxl).trans ih
def Hangs (n : Nat) (ts : List (Nat × Nat)) (lot : List Nat) : Prop := lot ≠ [] ∧ ∀ p ∈ lot, ∀ q ∈ lot, Rch n ts lot p q
end
section
variable {n : Nat} {ts : List (Nat × Nat)}
def freeP (n : Nat) (ts : List (Nat × Nat)) (a : Nat) : List (Nat × Nat) := ((List.range n).filter fun b => decide (a < b) && !adj ts a b).map fun b => (a, b)
def looseP (n : Nat) (ts : List (Nat × Nat)) : List (Nat × Nat) := (List.range n).flatMap (freeP n ts)
end
section
variable {n : Nat} {ts : List (Nat × Nat)}
def fullRow (n a : Nat) : List (Nat × Nat) := ((List.range (n - (a + 1))).map fun i => i + (a + 1)).map fun b => (a, b)
def fullT (n : Nat) : List (Nat × Nat) := (List.range n).flatMap (fullRow n)
theorem full_row (hn : n < 1000) {a : Nat} (ha : a < n) : (lcO (C2 (fun x y => dRange [x, y]) (b2 dAdd (some (PyData.int a)) (some (PyData.int 1))) (some (PyData.int (n : Nat)))) fun b9 => turnO (some true) ((consO (some (PyData.int a)) (consO (some b9) (some []))).map PyData.tuple)) = some ((fullRow n a).map tieD) := by
  have e1 : b2 dAdd (some (PyData.int a)) (some (PyData.int 1)) = some (.int ((a + 1 : Nat) : Int)) := add_nat a 1
  have e := lcO_map (oi := C2 (fun x y => dRange [x, y]) (b2 dAdd (some (PyData.int a)) (some (PyData.int 1))) (some (PyData.int (n : Nat)))) (f := fun b9 => (consO (some (PyData.int a)) (consO (some b9) (some []))).map PyData.tuple) (g := fun (i : Nat) => PyData.int i) (h := fun b => tieD (a, b)) ((List.range (n - (a + 1))).map fun i => i + (a + 1)) (by rw [e1]; exact range2_items (by omega) (by omega)) (by rw [List.length_map, List.length_range, sizeLine_eq]; omega) fun b _ => rfl
  rw [e]
  unfold fullRow
  simp only [List.map_map, Function.comp_def]
theorem forO_cons {S α : Type} {body : S → D → (S → Option α) → Option α} {d : D} {ds : List D} {s : S} {k : S → Option α} : forO body (d :: ds) s k = body s d (fun s' => forO body ds s' k) := rfl
theorem full_loop (hn : n ≤ 12) {α : Type} {k : D → Option α} : ∀ (xs : List Nat) (acc : List D), (∀ x ∈ xs, x < n) → acc.length + xs.length * 12 < 100000 →
    forO (S := D) (fun s3 a7 kk4 => ((b2 dAdd (some s3) ((lcO (C2 (fun x y => dRange [x, y]) (b2 dAdd (some a7) (some (PyData.int 1))) (some (PyData.int (n : Nat)))) fun b9 => turnO (some true) ((consO (some a7) (consO (some b9) (some []))).map PyData.tuple)).map PyData.list)).bind fun ties8 => (kk4 ties8))) (ofN xs) (.list acc) k = k (.list (acc ++ (xs.flatMap (fullRow n)).map tieD))
  | [], acc, _, _ => by
    have e : acc ++ (([] : List Nat).flatMap (fullRow n)).map tieD = acc := by simp
    rw [e]
    rfl
  | x :: xs, acc, hx, hl => by
    rw [List.length_cons] at hl
    have e1 := full_row (n := n) (by omega) (hx x List.mem_cons_self)
    have hlen : ((fullRow n x).map tieD).length ≤ 12 := by
      unfold fullRow
      rw [List.length_map, List.length_map, List.length_map, List.length_range]
      omega
    rw [show ofN (x :: xs) = PyData.int x :: ofN xs from rfl, forO_cons]
    rw [e1, Option.map_some, add_lists _ _ (by rw [sizeLine_eq]; omega), Option.bind_some]
    refine (full_loop hn xs _ (fun y hy => hx y (List.mem_cons_of_mem _ hy)) (by rw [List.length_append]; omega)).trans ?_
    rw [List.append_assoc, ← List.map_append, ← List.flatMap_cons]
theorem lawFull_eval (hn : n ≤ 12) : C1 m__law_full (some (.int (n : Nat))) = some (webD n (fullT n)) := by
  rw [c1_some]
  unfold m__law_full
  rw [range_items (by omega), Option.map_some, Option.bind_some, Option.bind_some, full_loop hn _ _ (fun x hx => List.mem_range.mp hx) (by rw [List.length_range]; simp; omega)]
  rfl
theorem full_9 : Wb 9 (fullT 9) := ⟨by decide, by decide, by decide, by decide, by decide⟩
theorem full_10 : Wb 10 (fullT 10) := ⟨by decide, by decide, by decide, by decide, by decide⟩
theorem full_11 : Wb 11 (fullT 11) := ⟨by decide, by decide, by decide +kernel, by decide +kernel, by decide +kernel⟩
theorem full_12 : Wb 12 (fullT 12) := ⟨by decide, by decide, by decide +kernel, by decide +kernel, by decide +kernel⟩
theorem full_web (h1 : 9 ≤ n) (h2 : n ≤ 12) : Wb n (fullT n) := by
  have : n = 9 ∨ n = 10 ∨ n = 11 ∨ n = 12 := by omega
  rcases this with rfl | rfl | rfl | rfl
  · exact full_9
  · exact full_10
  · exact full_11
  · exact full_12
end
end Dl

set_option Elab.async false
set_option linter.all false
set_option autoImplicit false
set_option maxRecDepth 100000
set_option maxHeartbeats 1000000
namespace Dl
open PySem L2 PySem.Spec PyProof.Rows
section
variable {α : Type} {P : Program} {w : World} {K : PySem.W.Frag} {mg : Str → Option Value} {base : Heap}
end
def dCatL : D → D → Option (List D)
  | .list xs, .list ys => if xs.length + ys.length ≤ sizeLine then some (xs ++ ys) else none
  | _, _ => none
theorem odl_cat : OpDL rCat dCatL := by
  intro G H x y d e z Q gh rx ry hf k
  cases rx with
  | @lst l vs xs hl r =>
    cases ry with
    | @lst b ws ys hb r' =>
      simp only [dCatL, Option.ite_none_right_eq_some, Option.some.injEq] at hf
      obtain ⟨hz, rfl⟩ := hf
      refine ⟨l, b, vs, ws, rfl, rfl, gh _ _ hl, gh _ _ hb, by rw [r.length, r'.length]; exact hz, fun p hp => ?_⟩
      obtain ⟨g, s⟩ := grow_own gh hp (.lst (vs ++ ws))
      exact k p _ G _ g s hp (gh.free hp) upd_same (r.append r')
    | _ => cases hf
  | _ => cases hf
section
variable {prog : Program} {w : World} {A : Around} {E : Value → Shared → Prop} {s : Shared}
end
section
variable {X : Cx} {R : Res} {ρ : List Cell} {e : Expr} {te : TE} {k : Nat} {p1 p2 p3 pos : Pos}
theorem RpL.rev {G : Hp} : ∀ {ds : List D} {vs : List V}, RpL G vs ds → RpL G vs.reverse ds.reverse
  | [], _, h => by cases h; exact .nil
  | _ :: _, _, h => by
    cases h with
    | cons a b =>
      rw [List.reverse_cons, List.reverse_cons]
      exact (RpL.rev b).append (.cons a .nil)
end
section
variable {α : Type} {X : Cx} {R : Res} {rk : RK α} {ρ : List Cell} {rest : List Stmt} {κ : Kt} {q : α → Nat → Prop} {e ix : Expr} {pos p1 p2 : Pos} {x : Str} {ds : List D}
end
end Dl

set_option Elab.async false
set_option linter.all false
set_option autoImplicit false
set_option maxRecDepth 100000
set_option maxHeartbeats 1000000
namespace Dl
open PySem L2
@[irreducible] def m_is_integer (value1 : D) : Option (D) :=
  (andV ((some value1).map fun d => PyData.bool (isTy "int" d)) (notV ((some value1).map fun d => PyData.bool (isTy "bool" d))))
@[irreducible] def m_is_place (n1 value2 : D) : Option (D) :=
  (andV (C1 m_is_integer (some value2)) (chainO dLe dLt (some (PyData.int 0)) (some value2) (some n1)))
theorem niceL_iff : ∀ {ds : List D}, niceL ds = true ↔ ∀ d ∈ ds, nice d = true
  | [] => by simp [niceL]
  | d :: ds => by simp [niceL, niceL_iff (ds := ds)]
theorem cnt_pos (d : D) : 1 ≤ cnt d := by cases d <;> simp [cnt]
theorem cntL_len : ∀ ds : List D, ds.length ≤ cntL ds
  | [] => by simp [cntL]
  | d :: ds => by
    have := cntL_len ds
    have := cnt_pos d
    simp only [List.length_cons, cntL]
    omega
theorem cntL_app : ∀ ds es : List D, cntL (ds ++ es) = cntL ds + cntL es
  | [], es => by simp [cntL]
  | d :: ds, es => by
    rw [List.cons_append, cntL, cntL, cntL_app ds es]
    omega
theorem cntL_sub {ds es : List D} (h : ds.Sublist es) : cntL ds ≤ cntL es := by
  induction h with
  | slnil => exact Nat.le_refl _
  | cons a _ ih => rw [cntL]; omega
  | cons_cons a _ ih => rw [cntL, cntL]; omega
theorem cnt_mem {ds : List D} {d : D} (h : d ∈ ds) : cnt d ≤ cntL ds := by
  have := cntL_sub (List.singleton_sublist.mpr h)
  simpa [cntL] using this
theorem depthAll_app : ∀ ds es : List D, PyData.depthAll (ds ++ es) = max (PyData.depthAll ds) (PyData.depthAll es)
  | [], es => by simp [PyData.depthAll]
  | d :: ds, es => by
    rw [List.cons_append, PyData.depthAll, PyData.depthAll, depthAll_app ds es]
    omega
theorem depthAll_le {ds : List D} {e : Nat} (h : ∀ d ∈ ds, d.depth ≤ e) : PyData.depthAll ds ≤ e := by
  induction ds with
  | nil => simp [PyData.depthAll]
  | cons d ds ih =>
    have h1 := h d List.mem_cons_self
    have h2 := ih fun x hx => h x (List.mem_cons_of_mem _ hx)
    simp only [PyData.depthAll]
    omega
theorem depth_mem {ds : List D} {d : D} (h : d ∈ ds) : d.depth ≤ PyData.depthAll ds := by
  induction ds with
  | nil => cases h
  | cons x ds ih =>
    simp only [PyData.depthAll]
    rcases List.mem_cons.mp h with rfl | h
    · omega
    · have := ih h
      omega
/-- data of at most so many parts, so deep -/
def Sm (c e : Nat) (d : D) : Prop := nice d = true ∧ cnt d ≤ c ∧ d.depth ≤ e
def SmL (c e : Nat) (ds : List D) : Prop := niceL ds = true ∧ cntL ds ≤ c ∧ PyData.depthAll ds ≤ e
/-- .. whose repr is a text -/
def Fine (d : D) : Prop := Sm 1000 60 d
theorem Fine.repr {d : D} (h : Fine d) : ∃ T : Str, C1 dRepr (some d) = some (.str T) := repr_ok h.1 h.2.1 h.2.2
theorem Sm.mono {c e c2 e2 : Nat} {d : D} (h : Sm c e d) (hc : c ≤ c2) (he : e ≤ e2) : Sm c2 e2 d := ⟨h.1, Nat.le_trans h.2.1 hc, Nat.le_trans h.2.2 he⟩
theorem Sm.fine {c e : Nat} {d : D} (h : Sm c e d) (hc : c ≤ 1000 := by omega) (he : e ≤ 60 := by omega) : Fine d := h.mono hc he
theorem SmL.mono {c e c2 e2 : Nat} {ds : List D} (h : SmL c e ds) (hc : c ≤ c2) (he : e ≤ e2) : SmL c2 e2 ds := ⟨h.1, Nat.le_trans h.2.1 hc, Nat.le_trans h.2.2 he⟩
theorem smL_nil {e : Nat} : SmL 0 e [] := ⟨rfl, Nat.le_refl _, Nat.zero_le _⟩
theorem SmL.cons {a b e : Nat} {d : D} {ds : List D} (h : Sm a e d) (hs : SmL b e ds) : SmL (a + b) e (d :: ds) := ⟨by simp [niceL, h.1, hs.1], by have := h.2.1; have := hs.2.1; simp only [cntL]; omega, by have := h.2.2; have := hs.2.2; simp only [PyData.depthAll]; omega⟩
theorem SmL.tup {c e : Nat} {ds : List D} (h : SmL c e ds) : Sm (c + 1) (e + 1) (.tuple ds) := ⟨h.1, by have := h.2.1; simp only [cnt]; omega, by have := h.2.2; simp only [PyData.depth]; omega⟩
theorem SmL.lst {c e : Nat} {ds : List D} (h : SmL c e ds) : Sm (c + 1) (e + 1) (.list ds) := ⟨h.1, by have := h.2.1; simp only [cnt]; omega, by have := h.2.2; simp only [PyData.depth]; omega⟩
theorem SmL.app {a b e : Nat} {ds es : List D} (h : SmL a e ds) (h2 : SmL b e es) : SmL (a + b) e (ds ++ es) := ⟨niceL_iff.mpr fun d hd => by
  rcases List.mem_append.mp hd with hd | hd
  · exact niceL_iff.mp h.1 d hd
  · exact niceL_iff.mp h2.1 d hd, by rw [cntL_app]; have := h.2.1; have := h2.2.1; omega, by rw [depthAll_app]; have := h.2.2; have := h2.2.2; omega⟩
theorem SmL.sub {a e : Nat} {ds es : List D} (h : SmL a e es) (hs : ds.Sublist es) : SmL a e ds := ⟨niceL_iff.mpr fun d hd => niceL_iff.mp h.1 d (hs.subset hd), Nat.le_trans (cntL_sub hs) h.2.1, depthAll_le fun d hd => Nat.le_trans (depth_mem (hs.subset hd)) h.2.2⟩
end Dl

set_option Elab.async false
set_option linter.all false
set_option autoImplicit false
set_option maxRecDepth 100000
set_option maxHeartbeats 1000000
namespace Dl
open PySem L2
theorem lcO_bools {f : D → Option D} {p : D → Bool} {oi : Option (List D)} (ds : List D) (hi : oi = some ds) (hl : ds.length < sizeLine) (hf : ∀ x ∈ ds, f x = some (.bool (p x))) : lcO oi (fun d => turnO (some true) (f d)) = some (ds.map fun x => .bool (p x)) :=
  lcO_map (g := id) (h := fun x => .bool (p x)) ds (by rw [hi, List.map_id]) hl hf
theorem all_eval (ds : List D) (p : D → Bool) : C1 dAll ((some (ds.map fun x => PyData.bool (p x))).map PyData.list) = some (.bool (ds.all p)) := by
  show dAll (.list (ds.map fun x => PyData.bool (p x))) = _
  have e : ds.map (fun x => PyData.bool (p x)) = (ds.map p).map PyData.bool := by rw [List.map_map]; rfl
  unfold dAll
  simp only [e]
  rw [blsOf_map]
  simp [List.all_map]
theorem len_tupD (ds : List D) : C1 dLen (some (PyData.tuple ds)) = some (.int (ds.length : Nat)) := rfl
def isPl (n : Nat) : D → Bool
  | .int i => decide (0 ≤ i ∧ i < n)
  | _ => false
theorem isInt_eval (d : D) : C1 m_is_integer (some d) = some (.bool (match d with | .int _ => true | _ => false)) := by
  rw [c1_some]
  unfold m_is_integer
  cases d <;> rfl
theorem chain_pl (i : Int) (n : Nat) : chainO dLe dLt (some (PyData.int 0)) (some (PyData.int i)) (some (.int (n : Nat))) = some (.bool (decide (0 ≤ i ∧ i < n))) := by
  show ((some (PyData.bool (decide (0 ≤ i)))).bind asB).bind (fun t => if t = true then some (PyData.bool (decide (i < (n : Int)))) else some (.bool false)) = _
  show (if decide (0 ≤ i) = true then some (PyData.bool (decide (i < (n : Int)))) else some (.bool false)) = _
  by_cases h : 0 ≤ i
  · rw [if_pos (decide_eq_true h)]
    simp [h]
  · rw [if_neg (by simpa using h)]
    simp [h]
theorem place_any (o : Option D) (d : D) (n : Nat) (ho : o = some (.bool (match d with | .int _ => true | _ => false))) : andV o (chainO dLe dLt (some (PyData.int 0)) (some d) (some (.int (n : Nat)))) = some (.bool (isPl n d)) := by
  rw [ho]
  cases d with
  | int i => exact chain_pl i n
  | _ => rfl
theorem isPlace_eval (n : Nat) (d : D) : C2 m_is_place (some (.int (n : Nat))) (some d) = some (.bool (isPl n d)) := by
  rw [c2_some]
  unfold m_is_place
  exact place_any _ d n (isInt_eval d)
theorem pl_int {n : Nat} {d : D} (h : isPl n d = true) : ∃ i : Int, d = .int i := by
  cases d with
  | int i => exact ⟨i, rfl⟩
  | _ => cases h
theorem all_ints {p : D → Bool} (hp : ∀ d, p d = true → ∃ i : Int, d = .int i) : ∀ {ds : List D}, ds.all p = true → ∃ ns : List Int, ds = ns.map PyData.int
  | [], _ => ⟨[], rfl⟩
  | d :: ds, h => by
    simp only [List.all_cons, Bool.and_eq_true] at h
    obtain ⟨i, rfl⟩ := hp d h.1
    obtain ⟨ns, rfl⟩ := all_ints hp h.2
    exact ⟨i :: ns, rfl⟩
theorem Fine.short {ds : List D} (h : Fine (.tuple ds)) : ds.length < sizeLine ∧ ds.length ≤ 1000 := by
  have h1 := h.2.1
  have h2 := cntL_len ds
  simp only [cnt] at h1
  rw [sizeLine_eq]
  omega
theorem Fine.mem {ds : List D} {d : D} (h : Fine (.tuple ds)) (hd : d ∈ ds) : Fine d := ⟨niceL_iff.mp h.1 d hd, by
  have h1 := h.2.1
  have := cnt_mem hd
  simp only [cnt] at h1
  omega, by
  have h1 := h.2.2
  have := depth_mem hd
  simp only [PyData.depth] at h1
  omega⟩
def EO (o : Option D) (c e : Nat) : Prop := ∃ d, o = some d ∧ Sm c e d
def EL (os : Option (List D)) (c e : Nat) : Prop := ∃ ds, os = some ds ∧ SmL c e ds
theorem EO.of {d : D} {c e : Nat} (h : Sm c e d) : EO (some d) c e := ⟨d, rfl, h⟩
theorem EO.mono {o : Option D} {c e c2 e2 : Nat} (h : EO o c e) (hc : c ≤ c2 := by omega) (he : e ≤ e2 := by omega) : EO o c2 e2 := by
  obtain ⟨d, h1, h2⟩ := h
  exact ⟨d, h1, h2.mono hc he⟩
theorem el_nil {e : Nat} : EL (some []) 0 e := ⟨[], rfl, smL_nil⟩
theorem EL.cons {o : Option D} {os : Option (List D)} {a b e e1 e2 : Nat} (h : EO o a e1) (hs : EL os b e2) (h1 : e1 ≤ e := by omega) (h2 : e2 ≤ e := by omega) : EL (consO o os) (a + b) e := by
  obtain ⟨d, rfl, h3⟩ := h
  obtain ⟨ds, rfl, h4⟩ := hs
  exact ⟨d :: ds, rfl, SmL.cons (h3.mono (Nat.le_refl _) h1) (h4.mono (Nat.le_refl _) h2)⟩
theorem EL.tup {os : Option (List D)} {c e : Nat} (h : EL os c e) : EO (os.map PyData.tuple) (c + 1) (e + 1) := by
  obtain ⟨ds, rfl, h⟩ := h
  exact ⟨_, rfl, h.tup⟩
theorem EL.lst {os : Option (List D)} {c e : Nat} (h : EL os c e) : EO (os.map PyData.list) (c + 1) (e + 1) := by
  obtain ⟨ds, rfl, h⟩ := h
  exact ⟨_, rfl, h.lst⟩
/-- (a, b) -/
theorem EO.pair {oa ob : Option D} {a b e1 e2 : Nat} (ha : EO oa a e1) (hb : EO ob b e2) : EO ((consO oa (consO ob (some []))).map PyData.tuple) (a + (b + 0) + 1) (max e1 e2 + 1) := EL.tup (EL.cons (e := max e1 e2) ha (EL.cons (e := e2) (e2 := 0) hb el_nil))
theorem EO.one {oa : Option D} {a e : Nat} (ha : EO oa a e) : EL (consO oa (some [])) (a + 0) e := EL.cons (e2 := 0) ha el_nil
/-- lists of values that can be shown -/
def VO (os : Option (List D)) (k : Nat) : Prop := ∃ ds, os = some ds ∧ ds.length ≤ k ∧ ∀ d ∈ ds, Fine d
theorem VO.cons {o : Option D} {os : Option (List D)} {c e k : Nat} (h : EO o c e) (hs : VO os k) (hc : c ≤ 1000 := by omega) (he : e ≤ 60 := by omega) : VO (consO o os) (k + 1) := by
  obtain ⟨d, rfl, h1⟩ := h
  obtain ⟨ds, rfl, h2, h3⟩ := hs
  refine ⟨d :: ds, rfl, by simp; exact h2, fun x hx => ?_⟩
  rcases List.mem_cons.mp hx with rfl | hx
  · exact h1.fine hc he
  · exact h3 x hx
theorem VO.add {ds : List D} {k j : Nat} {os : Option (List D)} (h : ds.length ≤ k ∧ ∀ d ∈ ds, Fine d) (hs : VO os j) (hz : k + j ≤ 1000 := by omega) : ∃ es, b2 dAdd (some (PyData.list ds)) (os.map PyData.list) = some (.list es) ∧ es.length ≤ k + j ∧ ∀ d ∈ es, Fine d := by
  obtain ⟨es, rfl, h2, h3⟩ := hs
  refine ⟨ds ++ es, add_lists ds es (by rw [sizeLine_eq]; omega), by simp; omega, fun e he => ?_⟩
  rcases List.mem_append.mp he with he | he
  · exact h.2 e he
  · exact h3 e he
end Dl

set_option Elab.async false
set_option linter.all false
set_option autoImplicit false
set_option maxRecDepth 100000
set_option maxHeartbeats 4000000
namespace Dl
open PySem L2 PySem.Spec PyProof.Rows
abbrev strictK : List (Str × Value) := [("strict", .bool true)]
theorem zs_type (a b : Value) : checkTypeCall "zip" ⟨[a, b], strictK⟩ = pure () := by kernel_rfl
theorem zs_new (a b : Value) : checkBuiltinCall "zip.__new__" ⟨[.type "zip", a, b], strictK⟩ = pure () := by kernel_rfl
theorem zs_init (o a b : Value) : argsOk "object.__init__" ⟨[o, a, b], strictK⟩ := by
  unfold argsOk
  rw [signature?_of (id := "object.__init__") (n := ['_', '_', 't', 'i', 'n', 'i', '_', '_']) (o := ['t', 'c', 'e', 'j', 'b', 'o']) (by kernel_rfl) F.owner_object]
  kernel_rfl
abbrev zipRec (TI TO : Addr) (f0 : Value) : Obj := { cls := .type "zip", dict := none, data := .fields #[f0, .bool false, .bool true, .ref TI, .ref TO], slots := #[] }
abbrev ZipS (h : Heap) (z TI TO : Addr) (f0 : Value) : Prop := h.get? z = some (zipRec TI TO f0)
abbrev hz1 (h : Heap) (l1 : Addr) : Heap := h.push { cls := .type "tuple_iterator", data := .fields #[.ref l1, .int 0 0] }
abbrev hz2 (h : Heap) (l1 l2 : Addr) : Heap := (hz1 h l1).push { cls := .type "tuple_iterator", data := .fields #[.ref l2, .int 0 0] }
abbrev hz3 (h : Heap) (l1 l2 : Addr) : Heap := (hz2 h l1 l2).push { cls := .type "tuple", data := .seq #[.ref h.objs.size, .ref (hz1 h l1).objs.size] }
abbrev hz4 (h : Heap) (l1 l2 : Addr) : Heap := (hz3 h l1 l2).push { cls := .type "tuple", data := .seq #[.none, .none] }
abbrev hz5 (h : Heap) (l1 l2 : Addr) : Heap := (hz4 h l1 l2).push (zipRec (hz2 h l1 l2).objs.size (hz3 h l1 l2).objs.size .none)
theorem zs_made (l1 l2 : Addr) (xs ys : Array Value) :
    Meets (Builtin.«zip.__new__» ⟨[.type "zip", .ref l1, .ref l2], strictK⟩) (fun _ R s => s.heap.IsTuple l1 xs ∧ s.heap.IsTuple l2 ys ∧ R (.ok (.ret (.ref (hz4 s.heap l1 l2).objs.size))) { s with heap := hz5 s.heap l1 l2 }) :=
  .of_wp fun prog w A R s h => by
    obtain ⟨hp, g, d, tk, os⟩ := s
    obtain ⟨t1, t2, h⟩ := h
    have hsub := sub_zip
    have u1 : Heap.IsTuple (Shared.heap ⟨hp, g, d, tk, os⟩) l1 xs := t1
    have u2 : Heap.IsTuple (Shared.heap ⟨hz1 hp l1, g, d, tk, os⟩) l2 ys := Heap.IsTuple.push t2 _
    wp_walk using wpAny_pyIter_tuple u1, wpAny_pyIter_tuple u2
    exact ⟨_, rfl, h⟩
section
variable {prog : Program} {w : World} {A : Around} {E : Value → Shared → Prop} {s : Shared}
theorem call_zs {l1 l2 : Addr} {xs ys : Array Value} {Q : Value → Shared → Prop} (t1 : s.heap.IsTuple l1 xs) (t2 : s.heap.IsTuple l2 ys)
    (h : ∀ h', ZipS h' (s.heap.objs.size + 4) (s.heap.objs.size + 2) (s.heap.objs.size + 3) .none → IsPair h' (s.heap.objs.size + 2) (.ref s.heap.objs.size) (.ref (s.heap.objs.size + 1)) → IsPair h' (s.heap.objs.size + 3) .none .none →
      h'.IsTupleIter s.heap.objs.size l1 0 → h'.IsTupleIter (s.heap.objs.size + 1) l2 0 → (∀ c o, s.heap.get? c = some o → h'.get? c = some o) → Q (.ref (s.heap.objs.size + 4)) { s with heap := h' }) :
    wpAny (model prog w) A (call (.type "zip") [.ref l1, .ref l2] strictK) Q E s := by
  have n1 : (hz1 s.heap l1).objs.size = s.heap.objs.size + 1 := Heap.size_push ..
  have n2 : (hz2 s.heap l1 l2).objs.size = s.heap.objs.size + 2 := by rw [Heap.size_push, n1]
  have n3 : (hz3 s.heap l1 l2).objs.size = s.heap.objs.size + 3 := by rw [Heap.size_push, n2]
  have n4 : (hz4 s.heap l1 l2).objs.size = s.heap.objs.size + 4 := by rw [Heap.size_push, n3]
  have g5 : (hz5 s.heap l1 l2).get? (hz4 s.heap l1 l2).objs.size = some (zipRec (hz2 s.heap l1 l2).objs.size (hz3 s.heap l1 l2).objs.size .none) := Heap.get?_push_size _ rfl
  have g4 : (hz5 s.heap l1 l2).get? (hz3 s.heap l1 l2).objs.size = some { cls := .type "tuple", data := .seq #[.none, .none] } := Heap.get?_push_of_some _ (Heap.get?_push_size _ rfl)
  have g3 : (hz5 s.heap l1 l2).get? (hz2 s.heap l1 l2).objs.size = some { cls := .type "tuple", data := .seq #[.ref s.heap.objs.size, .ref (hz1 s.heap l1).objs.size] } := Heap.get?_push_of_some _ (Heap.get?_push_of_some _ (Heap.get?_push_size _ rfl))
  have g2 : (hz5 s.heap l1 l2).get? (hz1 s.heap l1).objs.size = some { cls := .type "tuple_iterator", data := .fields #[.ref l2, .int 0 0] } := Heap.get?_push_of_some _ (Heap.get?_push_of_some _ (Heap.get?_push_of_some _ (Heap.get?_push_size _ rfl)))
  have g1 : (hz5 s.heap l1 l2).get? s.heap.objs.size = some { cls := .type "tuple_iterator", data := .fields #[.ref l1, .int 0 0] } := Heap.get?_push_of_some _ (Heap.get?_push_of_some _ (Heap.get?_push_of_some _ (Heap.get?_push_of_some _ (Heap.get?_push_size _ rfl))))
  have keep : ∀ c o, s.heap.get? c = some o → (hz5 s.heap l1 l2).get? c = some o := fun c o q => Heap.get?_push_of_some _ (Heap.get?_push_of_some _ (Heap.get?_push_of_some _ (Heap.get?_push_of_some _ (Heap.get?_push_of_some _ q))))
  obtain ⟨_, _, hmro⟩ := F.called_zip.mro
  have m1 := F.called_zip.made
  have m2 := F.called_zip.sub
  refine wpAny_call (codeAny_of_tree (?_ : wpAny _ _ (callAny (.type "zip") _) _ _ _))
  refine wpAny_pure ⟨Code.quiet_builtin _ (by decide +kernel), codeAny_builtin F.entry_type_call ?_⟩
  rw [Around.under_plain (weight_type_call_type "zip" [.ref l1, .ref l2] strictK) rfl]
  have m3 := F.called_zip.notType
  have m4 := F.called_zip.canCreate
  have m5 := zs_type (.ref l1) (.ref l2)
  repeat (any_goals (first | assumption | wp_step))
  refine codeAny_mono (codeAny_call_builtin F.called_zip.plain F.entry_zip_new (wpAny_of_eq (zs_new (.ref l1) (.ref l2)) (zs_made l1 l2 xs ys prog w A.in1 (wants (fun obj z => obj = .ref (hz4 s.heap l1 l2).objs.size ∧ z = { s with heap := hz5 s.heap l1 l2 }) E) s ⟨t1, t2, rfl, rfl⟩))) fun r z hr => ?_
  cases r with
  | error e => exact hr
  | ok fl =>
    cases fl with
    | ret obj =>
      obtain ⟨rfl, rfl⟩ := hr
      have hT : Shared.TypeIs { s with heap := hz5 s.heap l1 l2 } (.ref (hz4 s.heap l1 l2).objs.size) "zip" := ⟨_, g5, rfl⟩
      have m6 := F.called_zip.init.lookup
      have m7 := F.called_zip.init.bind (.ref (hz4 s.heap l1 l2).objs.size)
      repeat (any_goals (first | assumption | wp_step))
      have f8 : (Manifest.find? "zip").isSome = true := by decide +kernel
      have ini : Meets (Builtin.«object.__init__» ⟨[.ref (hz4 s.heap l1 l2).objs.size, .ref l1, .ref l2], strictK⟩) (fun _ R z => z.TypeIs (.ref (hz4 s.heap l1 l2).objs.size) "zip" ∧ R (.ok (.ret .none)) z) := by
        refine Meets.of_wp fun prog w A R z hz => ?_
        obtain ⟨tT, hq⟩ := hz
        have hne : (some "zip.__new__" != some "object.__new__") = true := by decide
        repeat (any_goals (first | assumption | wp_step))
        exact ⟨_, rfl, hq⟩
      refine codeAny_mono (codeAny_call_builtin F.called_zip.init.plain F.entry_object_init (F.called_zip.init.check _ _ _ _ _ _ _ _ hT (zs_init _ _ _) (ini prog w A.in1 (wants (fun r z => r = .none ∧ z = { s with heap := hz5 s.heap l1 l2 }) E) _ ⟨hT, rfl, rfl⟩))) fun r2 z2 hr2 => ?_
      cases r2 with
      | error e => exact hr2
      | ok fl2 =>
        cases fl2 with
        | ret r =>
          obtain ⟨rfl, rfl⟩ := hr2
          repeat (any_goals (first | assumption | wp_step))
          rw [n2, n3, n4] at g5
          rw [n1, n2] at g3
          rw [n3] at g4
          rw [n1] at g2
          rw [n4]
          exact h _ g5 g3 g4 ⟨_, g1, rfl, rfl⟩ ⟨_, g2, rfl, rfl⟩ keep
        | _ => exact hr2.elim
    | _ => exact hr.elim
end
end Dl

set_option Elab.async false
set_option linter.all false
set_option autoImplicit false
set_option maxRecDepth 100000
set_option maxHeartbeats 4000000
namespace Dl
open PySem L2 PySem.Spec PyProof.Rows
section
variable {prog : Program} {w : World} {A : Around} {E : Value → Shared → Prop} {s : Shared}
theorem noe_item {it l : Addr} {i : Nat} {us : Array Value} {x : Value} {Q : Option Value → Shared → Prop} (hit : s.heap.IsTupleIter it l i) (hl : s.heap.IsTuple l us) (hx : us[i]? = some x)
    (hQ : ∀ h', h'.IsTupleIter it l (i + 1) → Heap.SameBut it s.heap h' → Q (some x) { s with heap := h' }) : wpAny (model prog w) A (Builtin.SmallTypes.nextOrEnd (.ref it)) Q E s := by
  unfold Builtin.SmallTypes.nextOrEnd
  exact wpAny_bind (wpAny_attempt (RZ.nextOf_tuple_item hit hl hx fun h' a b => wpAny_pure (hQ h' a b)))
theorem noe_end {it l : Addr} {i : Nat} {us : Array Value} {Q : Option Value → Shared → Prop} (hh : A.handled = none) (hit : s.heap.IsTupleIter it l i) (hl : s.heap.IsTuple l us) (hx : us[i]? = none)
    (hQ : ∀ h', Heap.ExtBut it s.heap h' → Q none { s with heap := h' }) : wpAny (model prog w) A (Builtin.SmallTypes.nextOrEnd (.ref it)) Q E s := by
  unfold Builtin.SmallTypes.nextOrEnd
  refine wpAny_bind (wpAny_attempt (RZ.nextOf_tuple_end hh hit hl hx fun h' e k he => ?_))
  obtain ⟨o, ho, hc⟩ := he
  exact wpAny_bind (wpAny_isInstance (T := "StopIteration") (b := true) ⟨o, ho, hc⟩ isSubtype_stop (wpAny_pure (hQ h' k)))
variable {z TI TO i1 i2 l1 l2 : Addr} {k : Nat} {xs ys : Array Value} {x y a b : Value}
theorem zs_item (D : ZipApart z TI TO i1 i2 l1 l2) (hz : ZipS s.heap z TI TO .none) (hTI : IsPair s.heap TI (.ref i1) (.ref i2)) (hTO : IsPair s.heap TO a b) (h1 : s.heap.IsTupleIter i1 l1 k) (h2 : s.heap.IsTupleIter i2 l2 k) (t1 : s.heap.IsTuple l1 xs) (t2 : s.heap.IsTuple l2 ys)
    (hx : xs[k]? = some x) (hy : ys[k]? = some y) {Q : Value → Shared → Prop}
    (fin : ∀ h', ZipS h' z TI TO (rawInt s.heap.objs.size) → IsPair h' TO x y → h'.IsTupleIter i1 l1 (k + 1) → h'.IsTupleIter i2 l2 (k + 1) → IsPair h' s.heap.objs.size x y →
      (∀ c o, c ≠ z → c ≠ TO → c ≠ i1 → c ≠ i2 → s.heap.get? c = some o → h'.get? c = some o) → Q (.ref s.heap.objs.size) { s with heap := h' }) :
    wpAny (model prog w) A (Builtin.«zip.__next__» ⟨[.ref z], []⟩) (fun f s' => ∃ v, f = .done (.ret v) ∧ Q v s') E s := by
  refine wpAny_bind (m := field (.ref z) 2) (wpAny_field hz rfl (x := .bool true) rfl ?_)
  refine wpAny_bind (m := field (.ref z) 3) (wpAny_field hz rfl (x := .ref TI) rfl (wpAny_bind (wpAny_seqItems hTI rfl ?_)))
  refine wpAny_bind (m := Builtin.SmallTypes.ownedTupleIsFree (.ref z)) ?_
  unfold Builtin.SmallTypes.ownedTupleIsFree
  refine wpAny_bind (wpAny_field hz rfl (x := .none) rfl (wpAny_pure ?_))
  simp only [if_true]
  refine wpAny_bind (wpAny_rule (wpAny_bind (wpAny_field hz rfl (x := .ref TO) rfl (wpAny_bind (wpAny_setField_rec hz (by simp) fun hA zA sA => ?_)))))
  replace zA : ZipS hA z TI TO .ellipsis := zA
  refine wpAny_bind ?_
  simp only [List.zipIdx_cons, List.zipIdx_nil, List.forIn_cons, List.forIn_nil]
  -- the first one's item
  refine wpAny_bind (wpAny_bind (wpAny_onRaise (?_ : wpAny _ _ (Builtin.SmallTypes.nextOrEnd (.ref i1)) _ _ _)))
  refine noe_item (h1.extBut sA.extBut D.i1z) (t1.extBut sA.extBut D.l1z) hx fun hB jB sB => ?_
  have pB : IsPair hB TO a b := sB.extBut _ _ D.TOi1 (sA.extBut _ _ D.TOz hTO)
  refine wpAny_bind (wpAny_seqItems pB rfl (wpAny_bind (wpAny_updateSeq_pair pB fun hC pC sC => wpAny_bind (wpAny_letGo (wpAny_pure ?_)))))
  replace pC : IsPair hC TO x b := pC
  -- the second one's
  refine wpAny_bind (wpAny_bind (wpAny_onRaise (?_ : wpAny _ _ (Builtin.SmallTypes.nextOrEnd (.ref i2)) _ _ _)))
  refine noe_item (((h2.extBut sA.extBut D.i2z).extBut sB.extBut D.i12.symm).extBut sC.extBut D.TOi2.symm) (((t2.extBut sA.extBut D.l2z).extBut sB.extBut D.l2i1).extBut sC.extBut D.l2TO) hy fun hD jD sD => ?_
  have pD : IsPair hD TO x b := sD.extBut _ _ D.TOi2 pC
  refine wpAny_bind (wpAny_seqItems pD rfl (wpAny_bind (wpAny_updateSeq_pair pD fun hE' pE sE => wpAny_bind (wpAny_letGo (wpAny_pure (wpAny_pure ?_))))))
  replace pE : IsPair hE' TO x y := pE
  refine wpAny_bind (wpAny_seqItems pE rfl (wpAny_bind (wpAny_newTuple ?_)))
  -- how the heap stands
  have size : hE'.objs.size = s.heap.objs.size := by rw [sE.1, sD.1, sC.1, sB.1, sA.1]
  have zE : ZipS hE' z TI TO .ellipsis := sE.extBut _ _ D.TOz.symm (sD.extBut _ _ D.i2z.symm (sC.extBut _ _ D.TOz.symm (sB.extBut _ _ D.i1z.symm zA)))
  have keep : ∀ c o, c ≠ z → c ≠ TO → c ≠ i1 → c ≠ i2 → s.heap.get? c = some o → hE'.get? c = some o := fun c o n1 n2 n3 n4 q => sE.extBut _ _ n2 (sD.extBut _ _ n4 (sC.extBut _ _ n2 (sB.extBut _ _ n3 (sA.extBut _ _ n1 q))))
  have j1 : hE'.IsTupleIter i1 l1 (k + 1) := ((jB.extBut sC.extBut D.TOi1.symm).extBut sD.extBut D.i12).extBut sE.extBut D.TOi1.symm
  have j2 : hE'.IsTupleIter i2 l2 (k + 1) := jD.extBut sE.extBut D.TOi2.symm
  have low : z < hE'.objs.size := Heap.lt_size zE
  refine wpAny_bind (m := Builtin.SmallTypes.ownedTupleHandOut (.ref z) (.ref hE'.objs.size)) ?_
  unfold Builtin.SmallTypes.ownedTupleHandOut
  refine wpAny_bind (wpAny_setField_rec (Heap.get?_push_of_some _ zE : (hE'.push { cls := .type "tuple", data := .seq #[x, y] }).get? z = some (zipRec TI TO .ellipsis)) (by simp) fun hF zF sF => ?_)
  replace zF : ZipS hF z TI TO (rawInt hE'.objs.size) := zF
  refine wpAny_setField_rec zF (by simp) fun hG zG sG => ?_
  replace zG : ZipS hG z TI TO (rawInt hE'.objs.size) := zG
  have up : ∀ c o, c ≠ z → hE'.get? c = some o → hG.get? c = some o := fun c o n q => sG.extBut _ _ n (sF.extBut _ _ n (Heap.get?_push_of_some _ q))
  have new : IsPair hG hE'.objs.size x y := sG.extBut _ _ (Nat.ne_of_gt low) (sF.extBut _ _ (Nat.ne_of_gt low) (Heap.get?_push_size _ rfl))
  rw [size] at zG new
  refine wpAny_pure ⟨_, rfl, (?_ : Q (.ref hE'.objs.size) _)⟩
  rw [size]
  exact fin hG zG (up _ _ D.TOz pE) (j1.at fun o q => up _ o D.i1z q) (j2.at fun o q => up _ o D.i2z q) new fun c o n1 n2 n3 n4 q => up c o n1 (keep c o n1 n2 n3 n4 q)
theorem zs_end (hh : A.handled = none) (D : ZipApart z TI TO i1 i2 l1 l2) (hz : ZipS s.heap z TI TO .none) (hTI : IsPair s.heap TI (.ref i1) (.ref i2)) (h1 : s.heap.IsTupleIter i1 l1 k) (h2 : s.heap.IsTupleIter i2 l2 k) (t1 : s.heap.IsTuple l1 xs) (t2 : s.heap.IsTuple l2 ys)
    (hTO : IsPair s.heap TO a b) (hx : xs[k]? = none) (hy : ys[k]? = none) {Q : PySem.Fin → Shared → Prop}
    (hE : ∀ h' e, (∀ c o, c ≠ z → c ≠ TO → c ≠ i1 → c ≠ i2 → s.heap.get? c = some o → h'.get? c = some o) → (∃ o, h'.get? e = some o ∧ o.cls = .type "StopIteration") → E (.ref e) { s with heap := h' }) :
    wpAny (model prog w) A (Builtin.«zip.__next__» ⟨[.ref z], []⟩) Q E s := by
  refine wpAny_bind (m := field (.ref z) 2) (wpAny_field hz rfl (x := .bool true) rfl ?_)
  refine wpAny_bind (m := field (.ref z) 3) (wpAny_field hz rfl (x := .ref TI) rfl (wpAny_bind (wpAny_seqItems hTI rfl ?_)))
  refine wpAny_bind (m := Builtin.SmallTypes.ownedTupleIsFree (.ref z)) ?_
  unfold Builtin.SmallTypes.ownedTupleIsFree
  refine wpAny_bind (wpAny_field hz rfl (x := .none) rfl (wpAny_pure ?_))
  simp only [if_true]
  refine wpAny_bind (wpAny_rule (wpAny_bind (wpAny_field hz rfl (x := .ref TO) rfl (wpAny_bind (wpAny_setField_rec hz (by simp) fun hA zA sA => ?_)))))
  replace zA : ZipS hA z TI TO .ellipsis := zA
  refine wpAny_bind ?_
  simp only [List.zipIdx_cons, List.zipIdx_nil, List.forIn_cons, List.forIn_nil]
  refine wpAny_bind (wpAny_bind (wpAny_onRaise (?_ : wpAny _ _ (Builtin.SmallTypes.nextOrEnd (.ref i1)) _ _ _)))
  refine noe_end hh (h1.extBut sA.extBut D.i1z) (t1.extBut sA.extBut D.l1z) hx fun hB kB => ?_
  have zB : ZipS hB z TI TO .ellipsis := kB _ _ D.i1z.symm zA
  refine wpAny_bind (wpAny_setField_rec zB (by simp) fun hC zC sC => ?_)
  replace zC : ZipS hC z TI TO .none := zC
  refine wpAny_bind ?_
  refine wpAny_bind ?_
  simp only [List.drop_succ_cons, List.drop_zero, List.zipIdx_cons, List.zipIdx_nil, List.forIn_cons, List.forIn_nil]
  refine wpAny_bind (wpAny_bind (noe_end hh (((h2.extBut sA.extBut D.i2z).extBut kB D.i12.symm).extBut sC.extBut D.i2z) (((t2.extBut sA.extBut D.l2z).extBut kB D.l2i1).extBut sC.extBut D.l2z) hy fun hD kD => ?_))
  rw [if_neg (by simp)]
  refine wpAny_pure (wpAny_pure (wpAny_bind (wpAny_rule ?_)))
  have keep : ∀ c o, c ≠ z → c ≠ TO → c ≠ i1 → c ≠ i2 → s.heap.get? c = some o → hD.get? c = some o := fun c o n1 _ n3 n4 q => kD _ _ n4 (sC.extBut _ _ n1 (kB _ _ n3 (sA.extBut _ _ n1 q)))
  unfold Builtin.SmallTypes.stopIteration
  refine wpAny_bind ?_
  simp only [newExc, newTuple]
  refine wpAny_bind (wpAny_newObj_type ?_ (by size_fits))
  refine wpAny_bind (m := firstArgMember _ _) (wpAny_of_eq (a := Value.none) (by first | rfl | (simp only [firstArgMember]; rfl)) ?_)
  refine wpAny_newObj_type ?_ (by size_fits)
  simp only [raiseNew]
  refine wpAny_bind (wpAny_handled ?_)
  rw [hh]
  refine wpAny_bind (wpAny_pure (wpAny_throw ?_))
  exact hE _ _ (fun c o n1 n2 n3 n4 q => Heap.get?_push_of_some _ (Heap.get?_push_of_some _ (keep c o n1 n2 n3 n4 q))) ⟨_, Heap.get?_push_size _ rfl, rfl⟩
theorem zs_pyItem (D : ZipApart z TI TO i1 i2 l1 l2) (hz : ZipS s.heap z TI TO .none) (hTI : IsPair s.heap TI (.ref i1) (.ref i2)) (hTO : IsPair s.heap TO a b) (h1 : s.heap.IsTupleIter i1 l1 k) (h2 : s.heap.IsTupleIter i2 l2 k) (t1 : s.heap.IsTuple l1 xs) (t2 : s.heap.IsTuple l2 ys)
    (hx : xs[k]? = some x) (hy : ys[k]? = some y) {Q : Option Value → Shared → Prop}
    (fin : ∀ h', ZipS h' z TI TO (rawInt s.heap.objs.size) → IsPair h' TO x y → h'.IsTupleIter i1 l1 (k + 1) → h'.IsTupleIter i2 l2 (k + 1) → IsPair h' s.heap.objs.size x y →
      (∀ c o, c ≠ z → c ≠ TO → c ≠ i1 → c ≠ i2 → s.heap.get? c = some o → h'.get? c = some o) → Q (some (.ref s.heap.objs.size)) { s with heap := h' }) : wpAny (model prog w) A (pyNext (.ref z)) Q E s := by
  have hT : s.TypeIs (.ref z) "zip" := ⟨_, hz, rfl⟩
  unfold pyNext
  exact wpAny_bind (wpAny_attempt (wpAny_callSpecial?_slot (name := Str.ofString "__next__") hT F.slot_zip_next (wpAny_call_entry F.slot_zip_next hT F.entry_zip_next
    (zs_item D hz hTI hTO h1 h2 t1 t2 hx hy fun h' a1 a2 a3 a4 a5 a6 => wpAny_pure (fin h' a1 a2 a3 a4 a5 a6)) (F.args_zip_next_1 _))))
theorem zs_pyEnd (hh : A.handled = none) (D : ZipApart z TI TO i1 i2 l1 l2) (hz : ZipS s.heap z TI TO .none) (hTI : IsPair s.heap TI (.ref i1) (.ref i2)) (hTO : IsPair s.heap TO a b) (h1 : s.heap.IsTupleIter i1 l1 k) (h2 : s.heap.IsTupleIter i2 l2 k) (t1 : s.heap.IsTuple l1 xs) (t2 : s.heap.IsTuple l2 ys)
    (hx : xs[k]? = none) (hy : ys[k]? = none) {Q : Option Value → Shared → Prop}
    (fin : ∀ h', (∀ c o, c ≠ z → c ≠ TO → c ≠ i1 → c ≠ i2 → s.heap.get? c = some o → h'.get? c = some o) → Q none { s with heap := h' }) : wpAny (model prog w) A (pyNext (.ref z)) Q E s := by
  have hT : s.TypeIs (.ref z) "zip" := ⟨_, hz, rfl⟩
  unfold pyNext
  refine wpAny_bind (wpAny_attempt (wpAny_callSpecial?_slot (name := Str.ofString "__next__") hT F.slot_zip_next (wpAny_call_entry F.slot_zip_next hT F.entry_zip_next
    (zs_end (A := A.in1) (show A.in1.handled = none from hh) D hz hTI h1 h2 t1 t2 hTO hx hy fun h' e kp he => ?_) (F.args_zip_next_1 _))))
  obtain ⟨o, ho, hc⟩ := he
  exact wpAny_bind (wpAny_isInstance (T := "StopIteration") (b := true) ⟨o, ho, hc⟩ isSubtype_stop (wpAny_pure (fin h' kp)))
theorem zs_letGo {elts : List Expr} {kk : Nat} {pos : Pos} {T : Addr} {Q : Unit → Shared → Prop} (hz : ZipS s.heap z TI TO (rawInt T)) (fin : ∀ h', ZipS h' z TI TO .none → Heap.SameBut z s.heap h' → Q () { s with heap := h' }) :
    wpAny (model prog w) A (letOwnedTupleGo (.Tuple elts kk pos) (.ref z) (.ref T)) Q E s := by
  unfold letOwnedTupleGo
  refine wpAny_bind (wpAny_load hz ?_)
  change wpAny _ _ (if (["enumerate", "zip", "dict_itemiterator", "dict_reverseitemiterator", "odict_iterator", "itertools.zip_longest", "itertools.pairwise"].contains "zip" && (#[rawInt T, .bool false, .bool true, .ref TI, .ref TO] : Array Value)[0]? == some (rawInt T)) = true then _ else _) Q E s
  rw [if_pos (by simp)]
  refine wpAny_bind (m := rule _) (wpAny_rule ?_)
  exact wpAny_setField_rec hz (by simp) fin
theorem zs_iter {f0 : Value} {Q : Value → Shared → Prop} (hz : ZipS s.heap z TI TO f0) (h : Q (.ref z) s) : wpAny (model prog w) A (pyIter (.ref z)) Q E s := by
  have hT : s.TypeIs (.ref z) "zip" := ⟨_, hz, rfl⟩
  exact wpAny_pyIter_slot hT F.slot_zip_iter (wpAny_call_entry F.slot_zip_iter hT F.entry_zip_iter (wpAny_pure ⟨_, rfl, "zip", _, hT, F.slot_zip_next.lookup, h⟩) (F.args_zip_iter_1 _))
end
/-- how its turns go -/
def ItzS (K : PySem.W.Frag) (a b : Addr) : It :=
  ⟨(RZ.ItzT K a b).go, (RZ.ItzT K a b).yld, fun i H => ∃ xs ys : List V, SqT K H a xs ∧ SqT K H b ys ∧ xs.length = ys.length ∧ xs.length ≤ i⟩
theorem turn_zs {P : Program} {w : World} {K : PySem.W.Frag} {elts : List Expr} {kk : Nat} {tpos : Pos} {a b z TI TO i1 i2 : Addr} (D : ZipApart z TI TO i1 i2 a b) :
    Turn P w K (.Tuple elts kk tpos) (ItzS K a b) [z, TI, TO, i1, i2] z (fun i h => ZipS h z TI TO .none ∧ IsPair h TI (.ref i1) (.ref i2) ∧ (∃ x y, IsPair h TO x y) ∧ h.IsTupleIter i1 a i ∧ h.IsTupleIter i2 b i) where
  mem := List.mem_cons_self
  obj := fun i h st c hc => by
    obtain ⟨r1, r2, ⟨_, _, r3⟩, ⟨o4, r4, _, d4⟩, ⟨o5, r5, _, d5⟩⟩ := st
    simp only [List.mem_cons, List.not_mem_nil, or_false] at hc
    rcases hc with rfl | rfl | rfl | rfl | rfl
    · exact ⟨_, r1, fun v q => nomatch q⟩
    · exact ⟨_, r2, fun v q => nomatch q⟩
    · exact ⟨_, r3, fun v q => nomatch q⟩
    · exact ⟨o4, r4, fun v q => by rw [d4] at q; cases q⟩
    · exact ⟨o5, r5, fun v q => by rw [d5] at q; cases q⟩
  keep := fun i h h' st k => by
    obtain ⟨r1, r2, ⟨x, y, r3⟩, r4, r5⟩ := st
    exact ⟨k _ (by simp) _ r1, k _ (by simp) _ r2, ⟨x, y, k _ (by simp) _ r3⟩, r4.at fun o q => k _ (by simp) o q, r5.at fun o q => k _ (by simp) o q⟩
  item := by
    rintro X rfl rfl rfl hc i pins s σ H E I hf ⟨r1, r2, ⟨x0, y0, r3⟩, r4, r5⟩ ⟨xs, ys, x, y, sx, sy, ex, ey⟩
    obtain ⟨us, rv, p, _⟩ := I.tuple sx
    obtain ⟨ws, rv2, p2, _⟩ := I.tuple sy
    obtain ⟨u, hu, ru⟩ := rv.get ex
    obtain ⟨u2, hu2, ru2⟩ := rv2.get ey
    have low : z < s.heap.objs.size := Heap.lt_size r1
    refine zs_pyItem D r1 r2 r3 r4 r5 p p2 (x := u) (y := u2) (by simpa using hu) (by simpa using hu2) fun h' z' TO' j1 j2 hT hk => ?_
    refine ⟨_, rfl, zs_letGo (s := { s with heap := h' }) z' fun h2 z2 sb => ?_⟩
    have hT2 : h2.get? s.heap.objs.size = some { cls := .type "tuple", data := .seq #[u, u2] } := (sb.2 _ (Nat.ne_of_gt low)).trans hT
    have out : ∀ c, c ∉ [z, TI, TO, i1, i2] → ∀ o, s.heap.get? c = some o → h2.get? c = some o := fun c hc o q => by
      simp only [List.mem_cons, List.not_mem_nil, or_false, not_or] at hc
      exact (sb.2 c hc.1).trans (hk c o hc.1 hc.2.2.1 hc.2.2.2.1 hc.2.2.2.2 q)
    have J : Inv X pins σ (upd H s.heap.objs.size (.tup [x, y])) { s with heap := h2 } :=
      I.turnedNew (t' := s.toks) (ch := [z, TI, TO, i1, i2]) (fun c o hc q => out c hc o q) hf (Nat.le_refl _) ⟨by show 2 ≤ sizeLine; decide, [u, u2], .cons ru (.cons ru2 .nil), ⟨_, hT2, rfl, _, rfl⟩⟩
    refine ⟨.ref s.heap.objs.size, _, J, rfl, ⟨_, x, y, rfl, I.hok.fresh (Nat.le_refl _), rfl, fun l hl => by rw [I.tuple_inj hl sx]; exact ex, fun l hl => by rw [I.tuple_inj hl sy]; exact ey⟩, ⟨z2, (sb.2 _ D.TIz).trans (hk _ _ D.TIz D.TITO D.TIi1 D.TIi2 r2), ⟨u, u2, (sb.2 _ D.TOz).trans TO'⟩, j1.at fun o q => (sb.2 _ D.i1z).trans q, j2.at fun o q => (sb.2 _ D.i2z).trans q⟩, fun c hcm => ?_⟩
    have old : c < s.heap.objs.size := by
      have hc := hcm
      simp only [List.mem_cons, List.not_mem_nil, or_false] at hc
      rcases hc with rfl | rfl | rfl | rfl | rfl
      · exact low
      · exact Heap.lt_size r2
      · exact Heap.lt_size r3
      · obtain ⟨_, q, _⟩ := r4; exact Heap.lt_size q
      · obtain ⟨_, q, _⟩ := r5; exact Heap.lt_size q
    rw [upd_ne (Nat.ne_of_lt old)]
    exact (hf c hcm).1
  done := by
    rintro X rfl rfl rfl hc i pins s σ H E I hf ⟨r1, r2, ⟨x0, y0, r3⟩, r4, r5⟩ ⟨xs, ys, sx, sy, el, ei⟩
    obtain ⟨us, rv, p, _⟩ := I.tuple sx
    obtain ⟨ws, rv2, p2, _⟩ := I.tuple sy
    have n1 := rv.length
    have n2 := rv2.length
    exact zs_pyEnd (I.ok.hd hc) D r1 r2 r3 r4 r5 p p2 (by simp; omega) (by simp; omega) fun h' hk => ⟨rfl, I.turnedL (t' := s.toks) (ch := [z, TI, TO, i1, i2]) (fun c o hb q => by
      simp only [List.mem_cons, List.not_mem_nil, or_false, not_or] at hb
      exact hk c o hb.1 hb.2.2.1 hb.2.2.2.1 hb.2.2.2.2 q) hf⟩
  self := fun A i s Q E st h => zs_iter st.1 h
section
variable {M : Model} {A : Around} {E : Value → Shared → Prop} {s : Shared} {env : Env}
theorem call_kw {func : Expr} {args : List Expr} {kws : List Keyword} {pos : Pos} {Q : Value → Shared → Prop}
    (h : wpAny M A (eval func env) (fun f s1 => wpAny M A (callWith pos f [] (backTo pos (starEach args env)) (backToKw pos (keywordEach kws env))) Q E s1) E s)
    (he : eval (.Call func args kws pos) env = (do callWith pos (← eval func env) [] (backTo pos (starEach args env)) (backToKw pos (keywordEach kws env))) := by rfl) : wpAny M A (eval (.Call func args kws pos) env) Q E s := by
  rw [he]
  exact wpAny_bind h
theorem callWith_tyk {pos : Pos} {T : String} {args : List (Bool × Sem Value)} {keywords : List (Option Str × Sem Value)} {Q : Value → Shared → Prop} (hplain : args.any (·.1) = false) (hkw : keywords.any (·.1.isNone) = false)
    (h : wpAny M A (evalArgs (.type T) true args keywords) (fun a s1 => wpAny M A (call (.type T) a.pos a.kw) Q E s1) E s) : wpAny M A (callWith pos (.type T) [] args keywords) Q E s := by
  unfold callWith
  refine wpAny_bind (wpAny_holding (wpAny_mono h (fun a s1 h1 => wpAny_bind (wpAny_standAt ?_)) fun _ _ q => q))
  simp only [hplain, hkw, Bool.or_false]
  exact wpAny_bind (wpAny_pure (wpAny_bind (wpAny_mono h1 (fun r s2 hr => wpAny_bind (wpAny_holding (wpAny_point (wpAny_pure hr)))) fun _ _ q => q)))
end
def iZipS (K : PySem.W.Frag) (ta : TA) : TI := fun σ H R => ta σ H fun vs H1 => ∃ a b xs ys, vs = [.ref a, .ref b] ∧ SqT K H1 a xs ∧ SqT K H1 b ys ∧ R (ItzS K a b) H1
theorem pi_zipS {X : Cx} {e e2 : Expr} {ta : TA} {p pos tpos p3 p4 : Pos} {elts : List Expr} {kk k3 : Nat} (hg : Gl X "zip") (hm : X.mg "zip" = none) (ha : PA X [e, e2] ta)
    (hs : backTo pos (starEach [e, e2] X.env) = (false, eval e X.env) :: backTo pos (starEach [e2] X.env) := by rfl) (hpl : (backTo pos (starEach [e, e2] X.env)).any (·.1) = false := by rfl) :
    PI X (.Tuple elts kk tpos) (.Call (.Name "zip" p) [e, e2] [⟨some "strict", .Constant (.bool true) k3 p3, p4⟩] pos) (iZipS X.K ta) := by
  refine ⟨fun pins s σ H R I h => ?_⟩
  refine call_kw (ld_blt I hg hm PyProof.Rows.boot_zip (callWith_tyk hpl rfl ?_))
  rw [hs]
  refine evalArgs_kwB rfl ?_
  rw [← hs]
  refine thn (ha.run pos pins s σ H _ I h) fun us s1 ⟨vs, H1, I1, r1, q1⟩ => ?_
  refine kws_cons (wpAny_pure (kws_nil ?_))
  obtain ⟨a, b, xs, ys, ex, sx, sy, q⟩ := q1
  subst ex
  cases r1 with
  | cons r rr =>
    cases rr with
    | cons r' rr =>
      cases rr
      cases r
      cases r'
      obtain ⟨us, rv, t1, _⟩ := I1.tuple sx
      obtain ⟨ws, rv2, t2, _⟩ := I1.tuple sy
      obtain ⟨o1, g1, _⟩ := id t1
      obtain ⟨o2, g2, _⟩ := id t2
      refine call_zs (show s1.heap.IsTuple a us.toArray from t1) (show s1.heap.IsTuple b ws.toArray from t2) fun h' hz hTI hTO h1 h2 hk => zs_iter hz ?_
      refine ⟨s1.heap.objs.size + 4, [s1.heap.objs.size + 4, s1.heap.objs.size + 2, s1.heap.objs.size + 3, s1.heap.objs.size, s1.heap.objs.size + 1], _, _, H1, rfl, I1.kept (t' := s1.toks) hk, turn_zs (PySem.W.ktu_apart s1.heap.objs.size a b (Heap.lt_size g1) (Heap.lt_size g2)), ⟨hz, hTI, ⟨_, _, hTO⟩, h1, h2⟩, fun c hc => ?_, q⟩
      have le : s1.heap.objs.size ≤ c := by
        simp only [List.mem_cons, List.not_mem_nil, or_false] at hc
        rcases hc with rfl | rfl | rfl | rfl | rfl <;> omega
      exact I1.fpOk le (I1.hok.fresh le)
/-- zip(.., strict=True) -/
def dZipS : D → D → Option (List D)
  | .tuple xs, .tuple ys => if xs.length = ys.length then some (zipD xs ys) else none
  | _, _ => none
theorem walk_zs {elts : List Expr} {kk : Nat} {tpos : Pos} {K : PySem.W.Frag} {G : Hp} {p q : Addr} {vs ws : List V} {ds es : List D} (hp : Tu G p vs) (hq : Tu G q ws) (r : RpL G vs ds) (r2 : RpL G ws es) (hl : ds.length = es.length) : IsWalk (.Tuple elts kk tpos) G (ItzS K p q) (zipD ds es) where
  go := (walk_zt (elts := elts) (kk := kk) (tpos := tpos) hp hq r r2).go
  stop := fun H s => ⟨vs, ws, (hp.sqm s), (hq.sqm s), by rw [r.length, r2.length, hl], by rw [zipD_len, r.length]; omega⟩
  yld := (walk_zt (elts := elts) (kk := kk) (tpos := tpos) hp hq r r2).yld
section
variable {X : Cx} {R : Res} {ρ : List Cell} {a b : Expr} {pos p tpos p3 p4 : Pos} {elts : List Expr} {kk k3 : Nat}
theorem ji_zipS {Ts : M (List D)} (hm : X.mg "zip" = none) (ha : JA X R ρ [a, b] 2 Ts) (hg : Gl X "zip" := by rfl)
    (hs : backTo pos (starEach [a, b] X.env) = (false, eval a X.env) :: backTo pos (starEach [b] X.env) := by rfl) (hpl : (backTo pos (starEach [a, b] X.env)).any (·.1) = false := by rfl) :
    JI X R ρ (.Tuple elts kk tpos) (.Call (.Name "zip" p) [a, b] [⟨some "strict", .Constant (.bool true) k3 p3, p4⟩] pos) (fun q => Ts fun ds => lift (F2 dZipS ds) q) := by
  refine PI.imp (pi_zipS hg hm ha hs hpl) fun σ H Rr ⟨G, m, q, S, t, k⟩ => ⟨G, m, _, S, t, fun vs ds G1 H1 m1 S1 g1 r1 l1 q1 => ?_⟩
  obtain ⟨es, hd, q1⟩ := q1
  cases r1 with
  | nil => cases hd
  | cons r1 r2 =>
    cases r2 with
    | nil => cases hd
    | cons r2 r3 =>
      cases r3 with
      | cons _ _ => cases hd
      | nil =>
        cases r1 with
        | @tup p1 vs1 xs1 h1 ra =>
          cases r2 with
          | @tup p2 vs2 xs2 h2 rb =>
            have hd : (if xs1.length = xs2.length then some (zipD xs1 xs2) else none) = some es := hd
            by_cases hl : xs1.length = xs2.length
            · rw [if_pos hl] at hd
              cases hd
              exact ⟨_, _, _, _, rfl, (h1.sqm S1.gh), (h2.sqm S1.gh), k _ _ G1 H1 m1 S1 g1 (walk_zs h1 h2 ra rb hl) q1⟩
            · rw [if_neg hl] at hd; cases hd
          | _ => cases hd
        | _ => cases r2 <;> cases hd
theorem jie_zipS {oa ob : Option D} (hm : X.mg "zip" = none) (ha : JE X R ρ a oa) (hb : JE X R ρ b ob) (hg : Gl X "zip" := by rfl)
    (hs : starEach [a, b] X.env = (false, eval a X.env) :: starEach [b] X.env := by rfl) (hs2 : starEach [b] X.env = (false, eval b X.env) :: starEach [] X.env := by rfl)
    (hs3 : backTo pos (starEach [a, b] X.env) = (false, eval a X.env) :: backTo pos (starEach [b] X.env) := by rfl) (hpl : (backTo pos (starEach [a, b] X.env)).any (·.1) = false := by rfl) :
    JIE X R ρ (.Tuple elts kk tpos) (.Call (.Name "zip" p) [a, b] [⟨some "strict", .Constant (.bool true) k3 p3, p4⟩] pos) (C2 dZipS oa ob) :=
  (ji_zipS hm (jae_cons ha (jae_cons hb jae_nil hs2) hs) hg hs3 hpl).imp fun q m h => liftF (by rw [c2_eq]; exact h)
end
end Dl

set_option Elab.async false
set_option linter.all false
set_option autoImplicit false
set_option maxRecDepth 100000
set_option maxHeartbeats 1000000
namespace Dl
open PySem L2
section
variable {X : Cx} {pos p p2 p4 p5 p6 p7 pt pt2 : Pos} {x y z z2 : Str} {a : Addr} {k kt k2 : Nat} {F : List Int → Option (List D)}
end
section
variable {P : Program} {w : World} {K : PySem.W.Frag} {mg : Str → Option Value} {base : Heap}
end
end Dl

set_option Elab.async false
set_option linter.all false
set_option autoImplicit false
set_option maxRecDepth 100000
set_option maxHeartbeats 1000000
namespace Dl
open PySem L2
@[irreducible] def m_is_rising (values1 : D) : Option (D) :=
  (C1 dAll ((lcO (C2 dZipS (slO (some values1) (some none) (((some (PyData.int 1)).bind dNeg).bind asI)) (slO (some values1) ((some (PyData.int 1)).bind asI) (some none))) fun d => un2 d fun one2 other3 => turnO (some true) (b2 dLt (some one2) (some other3))).map PyData.list))
@[irreducible] def m_is_lot (n1 value2 : D) : Option (D) :=
  (andV ((some value2).map fun d => PyData.bool (isTy "tuple" d)) (andV (C1 dAll ((lcO ((some value2).bind dItems) fun place3 => turnO (some true) (C2 m_is_place (some n1) (some place3))).map PyData.list)) (C1 m_is_rising (some value2))))
def stepsB {α : Type} (lt : α → α → Bool) : List α → List Bool
  | a :: b :: r => lt a b :: stepsB lt (b :: r)
  | _ => []
def risesB {α : Type} (lt : α → α → Bool) (xs : List α) : Bool := (stepsB lt xs).all id
theorem steps_eval {α : Type} {lt : α → α → Bool} {g : α → D} (hg : ∀ a b, b2 dLt (some (g a)) (some (g b)) = some (.bool (lt a b))) : ∀ xs : List α, cO (fun d => un2 d fun one2 other3 => turnO (some true) (b2 dLt (some one2) (some other3))) (zipD (xs.map g) ((xs.map g).drop 1)) = some ((stepsB lt xs).map PyData.bool)
  | [] => rfl
  | [_] => rfl
  | a :: b :: r => by
    have ih := steps_eval hg (b :: r)
    show ((un2 (.tuple [g a, g b]) fun one2 other3 => turnO (some true) (b2 dLt (some one2) (some other3))).bind fun o => (cO _ (zipD ((b :: r).map g) (((b :: r).map g).drop 1))).bind fun z => some (match o with | some x => x :: z | none => z)) = _
    rw [ih]
    dsimp only [un2]
    rw [hg]
    rfl
theorem zip_last : ∀ ds : List D, zipD ds.dropLast (ds.drop 1) = zipD ds (ds.drop 1)
  | [] => rfl
  | [_] => rfl
  | a :: b :: r => by
    have ih := zip_last (b :: r)
    show PyData.tuple [a, b] :: zipD (b :: r).dropLast r = PyData.tuple [a, b] :: zipD (b :: r) r
    have e : (b :: r).drop 1 = r := rfl
    rw [e] at ih
    rw [ih]
theorem cut_last (ds : List D) : slO (some (.tuple ds)) (some none) (((some (PyData.int 1)).bind dNeg).bind asI) = some (.tuple ds.dropLast) := by
  show some (PyData.tuple (cutD ds none (some (-1)))) = _
  unfold cutD
  rw [HT.sIx_none]
  have e : HT.sIx ds.length ds.length (some (-1)) = ds.length - 1 := by
    show (if (-1 : Int) < 0 then ((-1 : Int) + (ds.length : Int)).toNat else min (-1 : Int).toNat ds.length) = _
    rw [if_pos (by decide)]
    omega
  rw [e, List.drop_zero, Nat.sub_zero, List.dropLast_eq_take]
theorem cut_first (ds : List D) : slO (some (.tuple ds)) ((some (PyData.int 1)).bind asI) (some none) = some (.tuple (ds.drop 1)) := by
  show some (PyData.tuple (cutD ds (some ((1 : Nat) : Int)) none)) = _
  unfold cutD
  rw [HT.sIx_none, HT.sIx_nat]
  cases ds with
  | nil => rfl
  | cons d r =>
    rw [Nat.min_eq_left (by simp), List.take_of_length_le (by simp)]
theorem bools_all (bs : List Bool) : C1 dAll ((some (bs.map PyData.bool)).map PyData.list) = some (.bool (bs.all id)) := by
  show dAll (.list (bs.map PyData.bool)) = _
  unfold dAll
  simp only []
  rw [blsOf_map]
  rfl
section
variable {α : Type} {lt : α → α → Bool} {g : α → D} {xs : List α}
theorem rising_eval (hg : ∀ a b, b2 dLt (some (g a)) (some (g b)) = some (.bool (lt a b))) (hl : xs.length < sizeLine) : C1 m_is_rising (some (.tuple (xs.map g))) = some (.bool (risesB lt xs)) := by
  rw [c1_some]
  unfold m_is_rising
  have e : C2 dZipS (some (PyData.tuple (xs.map g).dropLast)) (some (.tuple ((xs.map g).drop 1))) = some (zipD (xs.map g) ((xs.map g).drop 1)) := by
    rw [c2_some, ← zip_last]
    exact if_pos (by rw [List.length_dropLast, List.length_drop])
  have e2 : lcO (some (zipD (xs.map g) ((xs.map g).drop 1))) (fun d => un2 d fun one2 other3 => turnO (some true) (b2 dLt (some one2) (some other3))) = some ((stepsB lt xs).map PyData.bool) := by
    show (if (zipD (xs.map g) ((xs.map g).drop 1)).length < sizeLine then _ else none) = _
    rw [if_pos (by rw [zipD_len, List.length_map]; omega)]
    exact steps_eval hg xs
  rw [cut_last, cut_first, e, e2, bools_all]
  rfl
end
theorem lt_ints (i j : Int) : b2 dLt (some (PyData.int i)) (some (.int j)) = some (.bool (decide (i < j))) := rfl
theorem lt_rows (l r : List Int) : b2 dLt (some (tupD l)) (some (tupD r)) = some (.bool (HT.lexLt l r)) := by
  show ((intsOf (l.map PyData.int)).bind fun ns => (intsOf (r.map PyData.int)).bind fun ms => some (PyData.bool (HT.lexLt ns ms))) = _
  rw [intsOf_map, intsOf_map]
  rfl
def risesD (ds : List D) : Bool := match intsOf ds with
  | some ns => risesB (fun i j : Int => decide (i < j)) ns
  | none => false
theorem risesD_ints (ns : List Int) : risesD (ns.map PyData.int) = risesB (fun i j : Int => decide (i < j)) ns := by
  unfold risesD
  rw [intsOf_map]
def lotB (n : Nat) : D → Bool
  | .tuple ds => ds.all (isPl n) && risesD ds
  | _ => false
theorem lotB_eq (n : Nat) (ds : List D) : lotB n (.tuple ds) = (ds.all (isPl n) && risesD ds) := rfl
theorem lotB_tup (n : Nat) (ns : List Int) : lotB n (.tuple (ns.map PyData.int)) = ((ns.map PyData.int).all (isPl n) && risesB (fun i j : Int => decide (i < j)) ns) := by
  rw [lotB_eq, risesD_ints]
theorem isLot_eval (n : Nat) {v : D} (h : Fine v) : C2 m_is_lot (some (.int (n : Nat))) (some v) = some (.bool (lotB n v)) := by
  rw [c2_some]
  unfold m_is_lot
  cases v with
  | tuple ds =>
    obtain ⟨l1, l2⟩ := h.short
    have e1 : lcO ((some (PyData.tuple ds)).bind dItems) (fun place3 => turnO (some true) (C2 m_is_place (some (PyData.int (n : Nat))) (some place3))) = some (ds.map fun x => .bool (isPl n x)) := lcO_bools ds rfl l1 fun x _ => isPlace_eval n x
    rw [e1, all_eval]
    cases hA : ds.all (isPl n) with
    | false =>
      rw [lotB_eq, hA]
      rfl
    | true =>
      obtain ⟨ns, rfl⟩ := all_ints (fun _ => pl_int) hA
      rw [rising_eval (lt := fun i j : Int => decide (i < j)) lt_ints (by rwa [List.length_map] at l1), lotB_tup, hA]
      rfl
  | _ => rfl
end Dl

set_option Elab.async false
set_option linter.all false
set_option autoImplicit false
set_option maxRecDepth 100000
set_option maxHeartbeats 1000000
namespace Dl
open PySem L2
theorem all_pl {n : Nat} {xs : List Nat} (h : ∀ x ∈ xs, x < n) : (ofN xs).all (isPl n) = true := by
  rw [List.all_eq_true]
  intro d hd
  obtain ⟨x, hx, rfl⟩ := List.mem_map.mp hd
  have := h x hx
  exact decide_eq_true (p := 0 ≤ (x : Int) ∧ (x : Int) < n) (by omega)
def restL (n : Nat) (xs : List Nat) : List Nat := (List.range n).filter fun x => !decide (x ∈ xs)
section
variable {n : Nat} {ts : List (Nat × Nat)}
theorem ints_ofN (xs : List Nat) : intsOf (ofN xs) = some (xs.map fun (i : Nat) => (i : Int)) := by
  have e : ofN xs = (xs.map fun (i : Nat) => (i : Int)).map PyData.int := by rw [List.map_map]; rfl
  rw [e, intsOf_map]
end
end Dl

set_option Elab.async false
set_option linter.all false
set_option autoImplicit false
set_option maxRecDepth 100000
set_option maxHeartbeats 1000000
namespace Dl
open PySem L2 PySem.Spec PyProof.Rows
section
variable {X : Cx} {o e : Expr} {es : List Expr} {to : TE} {t : TA} {name : Str} {apos cpos : Pos} {id jd : String} {r r2 : V → List V → Hp → VK → Prop}
end
section
variable {X : Cx} {R : Res} {ρ : List Cell} {o e : Expr} {apos cpos : Pos}
end
end Dl

set_option Elab.async false
set_option linter.all false
set_option autoImplicit false
set_option maxRecDepth 100000
set_option maxHeartbeats 1000000
namespace Dl
open PySem L2
def plc (p : Int → Bool) (zs : List Int) : List Nat := (List.range zs.length).filter fun x => p (zs.getD x 0)
theorem plc_asc (p : Int → Bool) (zs : List Int) : Asc (plc p zs) := asc_filter _ (asc_range _)
theorem plc_mem {p : Int → Bool} {zs : List Int} {x : Nat} : x ∈ plc p zs ↔ x < zs.length ∧ p (zs.getD x 0) = true := by
  unfold plc
  rw [List.mem_filter, List.mem_range]
section
variable {n : Nat} {ts : List (Nat × Nat)} {rs ss : List Nat} {zs : List Int}
def openI (i : Nat) : Int → Bool := fun z => decide (z = -1 ∨ z = (i : Int))
noncomputable def roomL (n : Nat) (ts : List (Nat × Nat)) (rs : List Nat) (zs : List Int) (i : Nat) : List Nat := piece n ts (plc (openI i) zs) (rs.getD i 0)
def putL (zs : List Int) (p : Nat) (i : Int) : List Int := zs.take p ++ i :: zs.drop (p + 1)
end
end Dl

set_option Elab.async false
set_option linter.all false
set_option autoImplicit false
set_option maxRecDepth 100000
set_option maxHeartbeats 1000000
namespace Dl
open PySem L2
theorem ifO_ff {α : Type} (a b : Option α) : ifO (some false) a b = b := rfl
theorem ifO_tt {α : Type} (a b : Option α) : ifO (some true) a b = a := rfl
section
variable {n k : Nat} {ts : List (Nat × Nat)} {rs ss : List Nat}
def isI (i : Int) : Int → Bool := fun z => decide (z = i)
/-- the part of i is right -/
noncomputable def partB (n : Nat) (ts : List (Nat × Nat)) (rs ss : List Nat) (zs : List Int) (i : Nat) : Bool :=
  decide (zs.getD (rs.getD i 0) 0 = (i : Int)) && (decide ((plc (isI i) zs).length = ss.getD i 0) && (open Classical in decide (Hangs n ts (plc (isI i) zs))))
noncomputable def partsB (n : Nat) (ts : List (Nat × Nat)) (rs ss : List Nat) (zs : List Int) : Bool := (List.range rs.length).all (partB n ts rs ss zs)
end
end Dl

set_option Elab.async false
set_option linter.all false
set_option autoImplicit false
set_option maxRecDepth 100000
set_option maxHeartbeats 1000000
namespace Dl
open PySem L2
section
variable {n : Nat} {ts : List (Nat × Nat)} {rs ss : List Nat}
end
theorem sp_ifM {β : Type} {k k2 : Nat} {o : Option Bool} {b : Bool} {Ta Tb : M β} {Φ : β → Prop} (ho : o = some b) (ha : b = true → Sp k Ta Φ) (hb : b = false → Sp k2 Tb Φ) : Sp (max k k2) (ifM (lift o) Ta Tb) Φ := fun q m hm hq => by
  refine ⟨b, ho, ?_⟩
  cases b with
  | true =>
    rw [if_pos rfl]
    exact ha rfl q m (by omega) fun a m' hm' h => hq a m' (by omega) h
  | false =>
    rw [if_neg (by decide)]
    exact hb rfl q m (by omega) fun a m' hm' h => hq a m' (by omega) h
end Dl

set_option Elab.async false
set_option linter.all false
set_option autoImplicit false
set_option maxRecDepth 100000
set_option maxHeartbeats 1000000
namespace Dl
open PySem L2
def rIsB (neg : Bool) : R2 := fun x y H Q => ∃ a b, x = .bl a ∧ y = .bl b ∧ Q (.bl (if neg then !decide (a = b) else decide (a = b))) H
theorem op_isnotB {X : Cx} : OpR X (compareOp .IsNot) (rIsB true) := by
  intro pins s σ H x y v u Q I rx ry h
  obtain ⟨a, b, rfl, rfl, q⟩ := h
  cases (show v = Value.bool a from rx)
  cases (show u = Value.bool b from ry)
  by_cases e : a = b
  · subst e
    exact PySem.wpAny_isNot_self rfl ⟨.bl false, H, I, rfl, by simpa using q⟩
  · exact PySem.wpAny_isNot_other rfl (fun z => e (Value.bool.inj z)) ⟨.bl true, H, I, rfl, by simpa [e] using q⟩
def dIsB (neg : Bool) : D → D → Option D
  | .bool a, .bool b => some (.bool (if neg then !decide (a = b) else decide (a = b)))
  | _, _ => none
theorem od_isB {neg : Bool} : OpD (rIsB neg) (dIsB neg) := opd_scal fun G H x y d e z gh rx ry hf Q k => by
  cases rx with
  | bl a =>
    cases ry with
    | bl b =>
      cases hf
      exact ⟨a, b, rfl, rfl, k _ (.bl _)⟩
    | _ => cases hf
  | _ => cases hf
section
variable {α : Type} {X : Cx} {R : Res} {rk : RK α} {κ : Kt} {q : α → Nat → Prop} {ρ : List Cell} {o e : Expr} {rest : List Stmt} {pos apos cpos : Pos}
end
section
variable {α : Type} {X : Cx} {R : Res} {rk : RK α} {κ : KtE α} {ρ : List Cell} {o e : Expr} {rest : List Stmt} {pos apos cpos : Pos}
end
section
variable {α : Type} {X : Cx} {R : Res} {rk : RK α} {κ : Kt} {q : α → Nat → Prop} {ρ : List Cell} {e : Expr} {rest : List Stmt} {pos : Pos}
end
end Dl

set_option Elab.async false
set_option linter.all false
set_option autoImplicit false
set_option maxRecDepth 100000
set_option maxHeartbeats 1000000
namespace Dl
open PySem L2
def LtL (a b : List Nat) : Prop := ∃ (p : List Nat) (x y : Nat) (u v : List Nat), a = p ++ x :: u ∧ b = p ++ y :: v ∧ x < y
theorem LtL.app {a b : List Nat} (h : LtL a b) (s t : List Nat) : LtL (a ++ s) (b ++ t) := by
  obtain ⟨p, x, y, u, v, rfl, rfl, h⟩ := h
  exact ⟨p, x, y, u ++ s, v ++ t, by simp, by simp, h⟩
theorem lex_app (x y : Int) (u v : List Int) (h : x < y) : ∀ p : List Int, p ++ x :: u < p ++ y :: v
  | [] => List.cons_lt_cons_iff.mpr (.inl h)
  | a :: p => List.cons_lt_cons_iff.mpr (.inr ⟨rfl, lex_app x y u v h p⟩)
theorem LtL.row {a b : List Nat} (h : LtL a b) : rowN a ≤ rowN b ∧ a ≠ b := by
  obtain ⟨p, x, y, u, v, rfl, rfl, h⟩ := h
  have e : rowN (p ++ x :: u) < rowN (p ++ y :: v) := by
    unfold rowN
    rw [List.map_append, List.map_append, List.map_cons, List.map_cons]
    exact lex_app _ _ _ _ (by omega) _
  refine ⟨List.le_of_lt e, fun z => ?_⟩
  rw [z] at e
  exact List.lt_irrefl _ e
section
variable {n k : Nat} {ts : List (Nat × Nat)} {rs : List Nat}
theorem getD_lt {rs : List Nat} {n i : Nat} (h : ∀ r ∈ rs, r < n) (hi : i < rs.length) : rs.getD i 0 < n := by
  rw [List.getD_eq_getElem?_getD, List.getElem?_eq_getElem hi]
  exact h _ (List.getElem_mem hi)
theorem getD_map (d : List Nat) (x : Nat) : (d.map fun (i : Nat) => (i : Int)).getD x 0 = ((d.getD x 0 : Nat) : Int) := by
  rw [List.getD_eq_getElem?_getD, List.getD_eq_getElem?_getD, List.getElem?_map]
  cases d[x]? <;> rfl
end
end Dl

set_option Elab.async false
set_option linter.all false
set_option autoImplicit false
set_option maxRecDepth 100000
set_option maxHeartbeats 1000000
namespace Dl
open PySem L2
theorem nodup_le {xs ys : List Nat} (h : xs.Nodup) (hs : ∀ x ∈ xs, x ∈ ys) : xs.length ≤ ys.length := nat_nodup_len xs ys h hs
theorem Rch.wide {n : Nat} {ts : List (Nat × Nat)} {l1 l2 : List Nat} {p x : Nat} (hs : ∀ x ∈ l1, x ∈ l2) (h : Rch n ts l1 p x) : Rch n ts l2 p x := by
  induction h with
  | base => exact .base
  | step _ h1 h2 ih => exact .step ih h1 (hs _ h2)
def partL (xs : List Nat) (i : Nat) : List Nat := plc (isI (i : Int)) (xs.map fun (i : Nat) => (i : Int))
section
variable {n : Nat} {ts : List (Nat × Nat)} {rs ss : List Nat} {zs : List Int}
theorem part_mem {xs : List Nat} {i x : Nat} : x ∈ partL xs i ↔ x < xs.length ∧ xs.getD x 0 = i := by
  unfold partL
  rw [plc_mem, List.length_map, getD_map]
  unfold isI
  rw [decide_eq_true_eq]
  constructor
  · rintro ⟨h1, h2⟩
    exact ⟨h1, by omega⟩
  · rintro ⟨h1, h2⟩
    exact ⟨h1, by omega⟩
theorem partB_iff {xs : List Nat} {i : Nat} : partB n ts rs ss (xs.map fun (i : Nat) => (i : Int)) i = true ↔ xs.getD (rs.getD i 0) 0 = i ∧ (partL xs i).length = ss.getD i 0 ∧ Hangs n ts (partL xs i) := by
  unfold partB partL
  rw [getD_map]
  simp only [Bool.and_eq_true, decide_eq_true_eq]
  constructor
  · rintro ⟨h1, h2, h3⟩
    exact ⟨by omega, h2, h3⟩
  · rintro ⟨h1, h2, h3⟩
    exact ⟨by omega, h2, h3⟩
theorem partsB_iff {xs : List Nat} : partsB n ts rs ss (xs.map fun (i : Nat) => (i : Int)) = true ↔ ∀ i, i < rs.length → xs.getD (rs.getD i 0) 0 = i ∧ (partL xs i).length = ss.getD i 0 ∧ Hangs n ts (partL xs i) := by
  unfold partsB
  rw [List.all_eq_true]
  constructor
  · intro h i hi
    exact partB_iff.mp (h i (List.mem_range.mpr hi))
  · intro h i hi
    exact partB_iff.mpr (h i (List.mem_range.mp hi))
def fullB (ss : List Nat) (zs : List Int) (i : Nat) : Bool := decide (ss.getD i 0 < (plc (isI (i : Int)) zs).length)
noncomputable def shortB (n : Nat) (ts : List (Nat × Nat)) (rs ss : List Nat) (zs : List Int) (i : Nat) : Bool := decide ((roomL n ts rs zs i).length < ss.getD i 0) || (plc (isI (i : Int)) zs).any fun p => !decide (p ∈ roomL n ts rs zs i)
def wantsB (ss : List Nat) (zs : List Int) (i : Nat) : Bool := decide ((plc (isI (i : Int)) zs).length < ss.getD i 0)
noncomputable def lostB (n : Nat) (ts : List (Nat × Nat)) (rs ss : List Nat) (zs : List Int) (p : Nat) : Bool := !(((List.range rs.length).filter (wantsB ss zs)).any fun i => decide (p ∈ roomL n ts rs zs i))
theorem part_nodup {xs : List Nat} {i : Nat} : (partL xs i).Nodup := asc_nodup (plc_asc _ _)
end
section
variable {n : Nat} {ts : List (Nat × Nat)} {rs ss : List Nat} {zs : List Int}
end
end Dl

set_option Elab.async false
set_option linter.all false
set_option autoImplicit false
set_option maxRecDepth 100000
set_option maxHeartbeats 1000000
namespace Dl
open PySem L2
end Dl

set_option Elab.async false
set_option linter.all false
set_option autoImplicit false
set_option maxRecDepth 100000
set_option maxHeartbeats 1000000
namespace Dl
open PySem L2
def tupR (n : Nat) : Nat → List (List Nat)
  | 0 => [[]]
  | k + 1 => (tupR n k).flatMap fun r => ((List.range n).filter fun p => !decide (p ∈ r)).map fun p => r ++ [p]
theorem tupR_mem {n : Nat} : ∀ (k : Nat) (r : List Nat), r ∈ tupR n k ↔ r.length = k ∧ r.Nodup ∧ ∀ x ∈ r, x < n
  | 0, r => by
    show r ∈ [[]] ↔ _
    rw [List.mem_singleton]
    constructor
    · rintro rfl
      exact ⟨rfl, List.nodup_nil, fun x h => nomatch h⟩
    · rintro ⟨h, _⟩
      exact List.eq_nil_of_length_eq_zero h
  | k + 1, r => by
    show r ∈ (tupR n k).flatMap _ ↔ _
    rw [List.mem_flatMap]
    constructor
    · rintro ⟨e, he, hd⟩
      obtain ⟨p, hp, rfl⟩ := List.mem_map.mp hd
      obtain ⟨h1, h2, h3⟩ := (tupR_mem k e).mp he
      obtain ⟨a, b⟩ := List.mem_filter.mp hp
      have a := List.mem_range.mp a
      have b : p ∉ e := by simpa using b
      refine ⟨by rw [List.length_append, h1]; rfl, List.nodup_append.mpr ⟨h2, List.nodup_cons.mpr ⟨by simp, List.nodup_nil⟩, ?_⟩, ?_⟩
      · intro x hx y hy e2
        rw [List.mem_singleton.mp hy] at e2
        exact b (e2 ▸ hx)
      · intro x hx
        rcases List.mem_append.mp hx with h | h
        · exact h3 x h
        · rw [List.mem_singleton.mp h]
          exact a
    · rintro ⟨h1, h2, h3⟩
      have hne : r ≠ [] := fun e => by rw [e] at h1; cases h1
      obtain ⟨e, p, rfl⟩ : ∃ e p, r = e ++ [p] := ⟨r.dropLast, r.getLast hne, (List.dropLast_concat_getLast hne).symm⟩
      obtain ⟨n1, _, n3⟩ := List.nodup_append.mp h2
      rw [List.length_append] at h1
      have np : p ∉ e := fun hp => n3 p hp p (List.mem_singleton.mpr rfl) rfl
      refine ⟨e, (tupR_mem k e).mpr ⟨by simpa using h1, n1, fun x hx => h3 x (List.mem_append_left _ hx)⟩, List.mem_map.mpr ⟨p, List.mem_filter.mpr ⟨List.mem_range.mpr (h3 p (List.mem_append_right _ (List.mem_singleton.mpr rfl))), by simp [np]⟩, rfl⟩⟩
section
variable {n k : Nat}
end
section
variable {n : Nat} {ts : List (Nat × Nat)} {rs ss : List Nat}
/-- sizes for a web -/
structure Szs (n : Nat) (ss : List Nat) : Prop where
  lo : 1 ≤ ss.length
  hi : ss.length ≤ n
  pos : ∀ s ∈ ss, 1 ≤ s
  sum : ss.sum = n
theorem Szs.deal (h : Szs n ss) (hr : rs ∈ tupR n ss.length) : Deal n rs ss := by
  obtain ⟨h1, h2, h3⟩ := (tupR_mem _ rs).mp hr
  have := h.lo
  have := h.hi
  exact ⟨by omega, by omega, h2, h3, h1.symm, h.pos, h.sum⟩
end
end Dl

set_option Elab.async false
set_option linter.all false
set_option autoImplicit false
set_option maxRecDepth 100000
set_option maxHeartbeats 1000000
namespace Dl
open PySem L2
section
variable {n : Nat} {xs : List Nat}
variable {ts : List (Nat × Nat)} {rs ss : List Nat}
end
end Dl

set_option Elab.async false
set_option linter.all false
set_option autoImplicit false
set_option maxRecDepth 100000
set_option maxHeartbeats 1000000
namespace Dl
open PySem L2
section
variable {n : Nat} {xs : List Nat} {ts ps : List (Nat × Nat)} {rs ss : List Nat}
end
end Dl

set_option Elab.async false
set_option linter.all false
set_option autoImplicit false
set_option maxRecDepth 100000
set_option maxHeartbeats 1000000
namespace Dl
open PySem L2
section
variable {n : Nat} {xs : List Nat} {ts ps : List (Nat × Nat)} {t : Nat × Nat}
inductive Dsc (par : Nat → Nat) (n k : Nat) : Nat → Prop
  | base : Dsc par n k k
  | step {z : Nat} : 1 ≤ z → z < n → Dsc par n k (par z) → Dsc par n k z
theorem Dsc.le {par : Nat → Nat} {k m : Nat} (hp : ∀ k, 1 ≤ k → k < n → par k < k) (h : Dsc par n k m) : k ≤ m := by
  induction h with
  | base => exact Nat.le_refl _
  | @step z h1 h2 _ ih =>
    have := hp z h1 h2
    omega
end
end Dl

set_option Elab.async false
set_option linter.all false
set_option autoImplicit false
set_option maxRecDepth 100000
set_option maxHeartbeats 1000000
namespace Dl
open PySem L2
def storeL (L : List Ent) (k : NestedKey) (b : Addr) (v : V) : List Ent := if (entV L k).isSome = true then L.map (fun x => if x.1 = k then (x.1, x.2.1, v) else x) else L ++ [(k, b, v)]
theorem ent_some : ∀ {L : List Ent} {xs : List (NestedKey × Addr × Value)} (k : NestedKey), EntR L xs → (entV L k).isSome = (atKey xs k).isSome
  | _, _, _, .nil => rfl
  | _, _, k, .cons (k := k0) r rs => by
    unfold entV atKey
    rw [List.find?_cons, List.find?_cons]
    by_cases hkk : k0 = k
    · rw [decide_eq_true hkk]
      rfl
    · rw [decide_eq_false hkk]
      exact ent_some k rs
theorem put_ent {k : NestedKey} {v : V} {u : Value} (r : RelV v u) : ∀ {L : List Ent} {xs : List (NestedKey × Addr × Value)}, EntR L xs → EntR (L.map fun x => if x.1 = k then (x.1, x.2.1, v) else x) (xs.map (putAt k u))
  | _, _, .nil => .nil
  | _, _, .cons (k := k0) r0 rs => by
    rw [List.map_cons, List.map_cons]
    unfold putAt
    by_cases hkk : k0 = k
    · rw [if_pos hkk, if_pos hkk]
      exact .cons r (put_ent r rs)
    · rw [if_neg hkk, if_neg hkk]
      exact .cons r0 (put_ent r rs)
theorem ent_app : ∀ {L L2 : List Ent} {xs ys : List (NestedKey × Addr × Value)}, EntR L xs → EntR L2 ys → EntR (L ++ L2) (xs ++ ys)
  | _, _, _, _, .nil, h => h
  | _, _, _, _, .cons r rs, h => .cons r (ent_app rs h)
theorem store_ent {L : List Ent} {xs : List (NestedKey × Addr × Value)} {k : NestedKey} {b : Addr} {v : V} {u : Value} (h : EntR L xs) (r : RelV v u) : EntR (storeL L k b v) (storedH xs k b u) := by
  unfold storeL storedH
  rw [ent_some k h]
  split
  · exact put_ent r h
  · exact ent_app h (.cons r .nil)
section
variable {α : Type} {X : Cx} {R : Res} {rk : RK α} {ρ : List Cell} {st : Stmt} {rest : List Stmt} {κ : Kt} {q : α → Nat → Prop} {e ix : Expr} {pos p1 p2 p3 : Pos} {x : Str} {kvs : List (D × D)}
end
end Dl

set_option Elab.async false
set_option linter.all false
set_option autoImplicit false
set_option maxRecDepth 100000
set_option maxHeartbeats 1000000
namespace Dl
open PySem L2
def tN (R : Res) (ρ : List Cell) (T : M D) : TE := fun σ H Q => ∃ G m q, Sit R σ ρ G H m ∧ T q m ∧ ∀ p u d G' H' m', Sit R σ ρ G' H' m' → Grow R.vol G H G' H' → H p = none → G' p = none → H' p = some u → OwnR G' p u d → q d m' → Q (.ref p) H'
def JN (X : Cx) (R : Res) (ρ : List Cell) (e : Expr) (T : M D) : Prop := PE X e (tN R ρ T)
section
variable {α : Type} {X : Cx} {R : Res} {rk : RK α} {ρ : List Cell} {st : Stmt} {rest : List Stmt} {κ : Kt} {q : α → Nat → Prop} {e ix : Expr} {pos p1 p2 p3 : Pos} {x : Str}
end
section
variable {X : Cx} {o e : Expr} {es : List Expr} {to : TE} {t : TA} {name : Str} {apos cpos : Pos} {id : String} {r : V → List V → Hp → VK → Prop}
end
section
variable {X : Cx} {R : Res} {ρ : List Cell} {kx vx : Expr} {pos : Pos}
end
end Dl

set_option Elab.async false
set_option linter.all false
set_option autoImplicit false
set_option maxRecDepth 100000
set_option maxHeartbeats 1000000
namespace Dl
open PySem L2
section
variable {α : Type} {X : Cx} {R : Res} {rk : RK α} {ρ : List Cell} {st : Stmt} {rest : List Stmt} {e ix kx vx : Expr} {pos p1 p2 p3 : Pos} {x : Str}
/-- a new dict, its entries -/
def dM (T : M (List (D × D))) : M D := fun q => T fun kvs => q (.dict kvs)
abbrev JNE (X : Cx) (R : Res) (ρ : List Cell) (e : Expr) (o : Option (List (D × D))) : Prop := JN X R ρ e (dM (lift o))
end
section
variable {X : Cx} {R : Res} {ρ : List Cell} {o e : Expr} {apos cpos : Pos}
end
section
variable {α : Type} {X : Cx} {R : Res} {rk : RK α} {ρ : List Cell} {e : Expr}
end
end Dl

set_option Elab.async false
set_option linter.all false
set_option autoImplicit false
set_option maxRecDepth 100000
set_option maxHeartbeats 1000000
namespace Dl
open PySem L2 PySem.Spec PyProof.Rows
end Dl

set_option Elab.async false
set_option linter.all false
set_option autoImplicit false
set_option maxRecDepth 100000
set_option maxHeartbeats 1000000
namespace Dl
open PySem L2
end Dl

set_option Elab.async false
set_option linter.all false
set_option autoImplicit false
set_option maxRecDepth 100000
set_option maxHeartbeats 1000000
namespace Dl
open PySem L2
section
variable {α : Type} {X : Cx} {R : Res} {rk : RK α} {ρ : List Cell} {rest : List Stmt} {e : Expr} {pos p1 p2 p3 : Pos} {x : Str} {kvs : List (D × D)}
end
end Dl

set_option Elab.async false
set_option linter.all false
set_option autoImplicit false
set_option maxRecDepth 100000
set_option maxHeartbeats 1000000
namespace Dl
section
variable {S : Type} [DecidableEq S] {mv : S → List S} {a : S}
end
end Dl

set_option Elab.async false
set_option linter.all false
set_option autoImplicit false
set_option maxRecDepth 100000
set_option maxHeartbeats 1000000
namespace Dl
open PySem L2
end Dl

set_option Elab.async false
set_option linter.all false
set_option autoImplicit false
set_option maxRecDepth 100000
set_option maxHeartbeats 1000000
namespace Dl
open PySem L2
end Dl

set_option Elab.async false
set_option linter.all false
set_option autoImplicit false
set_option maxRecDepth 100000
set_option maxHeartbeats 1000000
namespace Dl
open PySem L2
section
variable {n : Nat} {ts : List (Nat × Nat)} {rs : List Nat} {bs : List (Int × Int)}
end
section
variable {n : Nat} {ts : List (Nat × Nat)} {rs : List Nat} {bs : List (Int × Int)}
end
section
variable {n : Nat} {ts : List (Nat × Nat)} {rs : List Nat} {bs : List (Int × Int)}
end
section
variable {n : Nat} {ts : List (Nat × Nat)} {rs : List Nat} {bs : List (Int × Int)}
end
end Dl

set_option Elab.async false
set_option linter.all false
set_option autoImplicit false
set_option maxRecDepth 100000
set_option maxHeartbeats 1000000
namespace Dl
open PySem L2
section
variable {S : Type} [DecidableEq S] {mv : S → List S} {a : S}
variable {E : List S}
theorem few_in {α : Type} [DecidableEq α] {E : List α} : ∀ {ks : List α}, ks.Nodup → (∀ k ∈ ks, k ∈ E) → ks.length ≤ E.length
  | [], _, _ => Nat.zero_le _
  | k :: ks, nd, h => by
    have hk := h k List.mem_cons_self
    have ih := few_in (E := E.erase k) (List.nodup_cons.mp nd).2 fun x hx => (List.mem_erase_of_ne (fun e : x = k => (List.nodup_cons.mp nd).1 (by rw [← e]; exact hx))).mpr (h x (List.mem_cons_of_mem _ hx))
    rw [List.length_erase_of_mem hk] at ih
    have : 0 < E.length := List.length_pos_of_mem hk
    rw [List.length_cons]
    omega
end
section
variable {n : Nat} {ts : List (Nat × Nat)} {rs : List Nat} {bs : List (Int × Int)}
end
section
variable {n : Nat} {ts : List (Nat × Nat)} {rs : List Nat} {bs : List (Int × Int)}
end
end Dl

set_option Elab.async false
set_option linter.all false
set_option autoImplicit false
set_option maxRecDepth 100000
set_option maxHeartbeats 1000000
namespace Dl
open PySem L2
section
variable {n : Nat} {ts : List (Nat × Nat)} {rs : List Nat} {bs : List (Int × Int)}
end
end Dl

set_option Elab.async false
set_option linter.all false
set_option autoImplicit false
set_option maxRecDepth 100000
set_option maxHeartbeats 1000000
namespace Dl
open PySem L2
section
variable {n : Nat} {ts : List (Nat × Nat)} {rs : List Nat} {bs : List (Int × Int)}
end
end Dl

set_option Elab.async false
set_option linter.all false
set_option autoImplicit false
set_option maxRecDepth 100000
set_option maxHeartbeats 1000000
namespace Dl
open PySem L2
section
variable {n : Nat} {ts ts2 : List (Nat × Nat)}
theorem full_mem {a b : Nat} (h1 : a < b) (h2 : b < n) : (a, b) ∈ fullT n := by
  unfold fullT fullRow
  rw [List.mem_flatMap]
  refine ⟨a, List.mem_range.mpr (by omega), List.mem_map.mpr ⟨b, List.mem_map.mpr ⟨b - (a + 1), List.mem_range.mpr (by omega), by omega⟩, rfl⟩⟩
theorem few66 (W : Wb n ts) : ts.length ≤ 66 := by
  have hi := W.hi
  have h66 : (fullT 12).length = 66 := by decide
  have := nat_nodup_len (ts.map fun p => p.1 * 12 + p.2) ((fullT 12).map fun p => p.1 * 12 + p.2) (List.pairwise_map.mpr (W.asc.imp_of_mem fun {p q} hp hq h => by
    have h1 := W.ord p hp
    have h2 := W.ord q hq
    omega)) fun z hz => by
    obtain ⟨p, hp, rfl⟩ := List.mem_map.mp hz
    have h1 := W.ord p hp
    exact List.mem_map.mpr ⟨p, full_mem (n := 12) h1.1 (by omega), rfl⟩
  rw [List.length_map, List.length_map, h66] at this
  exact this
def tieP (ts : List (Nat × Nat)) (a b : Nat) : List (Nat × Nat) := ordP (ts ++ [(min a b, max a b)])
theorem tieP_web (W : Wb n ts) {a b : Nat} (ha : a < n) (hb : b < n) (hab : a ≠ b) : Wb n (tieP ts a b) where
  lo := W.lo
  hi := W.hi
  few := by
    have := ordP_len (ts ++ [(min a b, max a b)])
    rw [List.length_append, List.length_singleton] at this
    have := few66 W
    unfold tieP
    omega
  ord := fun p hp => by
    rcases List.mem_append.mp ((ordP_mem _).mp hp) with h | h
    · exact W.ord p h
    · rw [List.mem_singleton.mp h]
      show min a b < max a b ∧ max a b < n
      omega
  asc := ordP_asc _
theorem tieP_sub {a b : Nat} : ∀ p ∈ ts, p ∈ tieP ts a b := fun p hp => (ordP_mem _).mpr (List.mem_append_left _ hp)
theorem adj_sub (h : ∀ p ∈ ts, p ∈ ts2) {x y : Nat} (ha : adj ts x y = true) : adj ts2 x y = true := decide_eq_true (h _ (of_decide_eq_true ha))
theorem nbr_sub (h : ∀ p ∈ ts, p ∈ ts2) {x y : Nat} (hy : y ∈ nbr n ts x) : y ∈ nbr n ts2 x := by
  unfold nbr at *
  rw [List.mem_filter, Bool.and_eq_true] at *
  exact ⟨hy.1, hy.2.1, adj_sub h hy.2.2⟩
theorem Rch.sub (h : ∀ p ∈ ts, p ∈ ts2) {lot : List Nat} {p q : Nat} (r : Rch n ts lot p q) : Rch n ts2 lot p q := by
  induction r with
  | base => exact .base
  | step _ h1 h2 ih => exact .step ih (nbr_sub h h1) h2
theorem Hangs.sub (h : ∀ p ∈ ts, p ∈ ts2) {lot : List Nat} (r : Hangs n ts lot) : Hangs n ts2 lot := ⟨r.1, fun p hp q hq => (r.2 p hp q hq).sub h⟩
end
section
variable {n : Nat} {ts ts2 : List (Nat × Nat)} {rs : List Nat} {bs bs2 : List (Int × Int)}
end
section
variable {n : Nat} {ts : List (Nat × Nat)} {rs : List Nat} {bs : List (Int × Int)}
end
section
variable {n : Nat} {ts : List (Nat × Nat)} {rs : List Nat} {bs : List (Int × Int)}
end
end Dl

set_option Elab.async false
set_option linter.all false
set_option autoImplicit false
set_option maxRecDepth 100000
set_option maxHeartbeats 1000000
namespace Dl
open PySem L2
def ch (d : D) : List Nat := d.shown.cps.toList
def joinL : List (List Nat) → List Nat
  | [] => []
  | [x] => x
  | x :: y :: r => x ++ (44 :: 32 :: joinL (y :: r))
end Dl

set_option Elab.async false
set_option linter.all false
set_option autoImplicit false
set_option maxRecDepth 100000
set_option maxHeartbeats 1000000
namespace Dl
open PySem L2
end Dl
namespace Dl
open PySem L2 PySem.Spec PyProof.Rows
section
variable {prog : Program} {w : World} {A : Around} {R : Result → Shared → Prop} {s : Shared} {kx vx t0 i0 t1 i1 : Expr} {ifs0 ifs1 : List Expr} {scope : Scope} {pos : Pos} {it : Value} {D : Addr} {env : Env}
end
section
variable {X : Cx}
end
end Dl

set_option Elab.async false
set_option linter.all false
set_option autoImplicit false
set_option maxRecDepth 100000
set_option maxHeartbeats 1000000
namespace Dl
open PySem L2
end Dl
namespace Dl
open PySem L2 PySem.Spec PyProof.Rows
/-- a kind of keys that are numbers or texts -/
structure SK (κ : Type) where
  enc : κ → D
  of : D → Option κ
  of_eq : ∀ {d : D} {k : κ}, of d = some k → d = enc k
  of_enc : ∀ k : κ, of (enc k) = some k
  key : κ → Key
  inj : ∀ a b, key a = key b → a = b
  sk : ∀ k, skey (enc k) = some (key k)
  rv : ∀ {G : Hp} {v : V} {k : κ}, Rp G v (enc k) → v = kV (key k)
theorem putK_true {kvs : List (Key × V)} (k : Key) (h : ∀ x ∈ kvs, x.2 = .bl true) : ∀ x ∈ putK kvs k (.bl true), x.2 = .bl true := by
  unfold putK
  split
  · intro x hx
    obtain ⟨y, hy, rfl⟩ := List.mem_map.mp hx
    split
    · rfl
    · exact h y hy
  · intro x hx
    rcases List.mem_append.mp hx with hx | hx
    · exact h x hx
    · rw [List.mem_singleton.mp hx]
def kdS (P : Program) (w : World) (A : Around) {κ : Type} [DecidableEq κ] (S : SK κ) : KD P w A κ where
  enc := S.enc
  of := S.of
  of_eq := S.of_eq
  ho := fun _ _ ns O => ∃ kvs : List (Key × V), O = .dK kvs ∧ kvs.map (·.1) = ns.map S.key ∧ ∀ x ∈ kvs, x.2 = .bl true
  nil := fun G a => ⟨.dK [], fun H h hb _ => dk_empty h hb, [], rfl, rfl, fun _ h => nomatch h⟩
  mono := fun _ h => h
  put := fun {ks O G H Dl v k} hu ⟨kvs, e, hk, ht⟩ s hD hl r => by
    subst e
    have hv := S.rv r
    subst hv
    have len : kvs.length = ks.length := by have := congrArg List.length hk; simpa using this
    refine ⟨.dK (putK kvs (S.key k) (.bl true)), ?_, _, rfl, ?_, putK_true _ ht⟩
    · rintro X rfl rfl rfl pins σ s E u r Q I ry rz fin
      exact d_dictSet (k := S.key k) I hD (by omega) ry rz fin
    · rw [putK_keys, hk]
      exact ins_map (f := S.key) S.inj ks k
section
variable {P : Program} {w : World} {A : Around} {κ : Type} [DecidableEq κ]
def inK (K : KD P w A κ) (g : D → M (Option D)) : List D → List κ → M (List κ)
  | [], as => fun q m => q as m
  | d :: ds, as => fun q m => g d (fun o m1 => match o with | some x => ∃ k, K.of x = some k ∧ as.length < sizeLine ∧ inK K g ds (as ++ [k]) q m1 | none => inK K g ds as q m1) m
variable {X : Cx} {R : Res} {ρ : List Cell} {iter kx iter1 : Expr} {ifs1 : List Expr} {scope : Scope} {own : List (Str × Nat)} {pos px py : Pos} {i0 i1 : Nat} {x y : Str}
end
/-- the heap told otherwise -/
def Ret (X : Cx) (H H' : Hp) : Prop := ∀ (pins : List (Addr × Obj)) (σ : L2.St) (s : Shared), L2.Inv X pins σ H s → L2.Inv X pins σ H' s
theorem PE.ret {X : Cx} {e : Expr} {t t' : TE} (h : PE X e t) (hi : ∀ σ H Q, t' σ H Q → t σ H fun x H1 => ∃ H2, Ret X H1 H2 ∧ Q x H2) : PE X e t' :=
  ⟨fun pins s σ H Q I q => thn (h.run pins s σ H _ I (hi σ H Q q)) fun v s1 ⟨x, H1, I1, r1, H2, ret, q2⟩ => ⟨x, H2, ret _ _ _ I1, r1, q2⟩⟩
theorem ret_empty {X : Cx} {H : Hp} {p : Addr} (h : H p = some (.dK [])) : Ret X H (upd H p (DictNO p [])) := fun pins σ s I => by
  obtain ⟨z, hd, vs, rel, o, es, ep, ho, hx, hdt, _, pr, _⟩ := dk_of I.hok h
  cases rel
  have e0 : es.toList = [] := by
    generalize es.toList = l at pr
    cases pr
    rfl
  have new : ObjOk X.prog X.w (upd H p (DictNO p [])) s.heap p (DictNO p []) := by
    refine ⟨⟨Nat.zero_le _, hd, (fun _ h => nomatch h), List.nodup_nil, o, es, ep, [], ho, hx, hdt, e0, .nil⟩, ⟨o, ho⟩, fun h1 h2 ⟨a, b, c, d, o1, es1, ep1, xs1, e1, e2, e3, e4, e5⟩ k => ⟨a, b, c, d, o1, es1, ep1, xs1, k _ e1, e2, e3, e4, e5⟩⟩
  have := d_write (t' := s.toks) (h' := s.heap) I (by rw [h]; exact True.intro) ⟨rfl, fun _ _ => rfl⟩ ⟨o, ho⟩ new
  exact this
def trueD {κ : Type} [DecidableEq κ] (S : SK κ) (as : List κ) : D := .dict ((as.foldl insK []).map fun k => (S.enc k, .bool true))
section
variable {X : Cx} {R : Res} {ρ : List Cell} {e : Expr} {κ : Type} [DecidableEq κ]
theorem jm_ofKs {S : SK κ} {T : M (List κ)} (h : PE X e (tKs (kdS X.prog X.w X.A S) R ρ T)) : JM X R ρ e (fun q => T fun as m => q (trueD S as) m) :=
  PE.ret h fun σ H Q ⟨G, m, q, Sx, t, c⟩ => ⟨G, m, _, Sx, t, fun p O as G' H' m' S' g hp gp hO ho hq => by
    obtain ⟨kvs, rfl, hk, ht⟩ := ho
    have hvp : ¬ R.vol p := fun v => Sx.vh p v hp
    have keys : (((as.foldl insK []).map fun k => (S.enc k, PyData.bool true)).map fun x => skey x.1) = kvs.map (fun x => some x.1) := by
      have e1 : kvs.map (fun x => some x.1) = (kvs.map (·.1)).map some := by rw [List.map_map]; rfl
      rw [e1, hk, List.map_map, List.map_map]
      exact List.map_congr_left fun k _ => S.sk k
    have vals : ∀ G2 : Hp, RpL G2 (kvs.map (·.2)) (((as.foldl insK []).map fun k => (S.enc k, PyData.bool true)).map (·.2)) := fun G2 => by
      have hl : kvs.length = (as.foldl insK []).length := by have := congrArg List.length hk; simpa using this
      revert hl
      generalize as.foldl insK [] = ks
      clear hk keys hO
      induction kvs generalizing ks with
      | nil =>
        intro hl
        cases ks with
        | nil => exact .nil
        | cons _ _ => cases hl
      | cons x kvs ih =>
        intro hl
        cases ks with
        | nil => cases hl
        | cons k ks =>
          refine .cons ?_ (ih (fun y hy => ht y (List.mem_cons_of_mem _ hy)) ks (by simpa using hl))
          have : x.2 = .bl true := ht x List.mem_cons_self
          show Rp G2 x.2 (.bool true)
          rw [this]
          exact .bl true
    cases hkv : kvs with
    | nil =>
      subst hkv
      have e0 : as.foldl insK [] = [] := by
        have := congrArg List.length hk
        simp only [List.map_nil, List.length_nil, List.length_map] at this
        exact List.length_eq_zero_iff.mp this.symm
      refine ⟨_, ret_empty hO, ?_⟩
      have gd : upd H' p (DictNO p []) p = some (DictNO p []) := upd_same
      have S2 : Sit R σ ρ G' (upd H' p (DictNO p [])) m' := S'.updN gp hvp fun i ds l h1 h2 e => by
        obtain ⟨l', u, a1, _, _, _, a5, _⟩ := Sx.owT h1
        rw [h2] at a1
        cases a1
        subst e
        rw [hp] at a5
        cases a5
      obtain ⟨g1, g2⟩ := grow_share S2.gh gp gd
      have g' : Grow R.vol G H (upd G' p (DictNO p [])) (upd H' p (DictNO p [])) := ⟨g.gg.trans g1, fun a o n h => by
        rw [upd_ne (fun e => by subst e; rw [hp] at h; cases h)]
        exact g.hh a o n h, fun x gx hx => by
        by_cases e : x = p
        · subst e; exact absurd hp hx
        · rw [upd_ne e]; exact g.new x gx hx⟩
      refine c (.ref p) _ _ _ m' (Sx.grow g' g2 S2.vh S2.jd) g' ?_ hq
      unfold trueD
      rw [e0]
      exact .dic upd_same rfl .nil .nil
    | cons y ys =>
      refine ⟨H', fun _ _ _ I => I, ?_⟩
      obtain ⟨g1, g2⟩ := grow_share S'.gh gp hO
      have g' : Grow R.vol G H (upd G' p (.dK kvs)) H' := ⟨g.gg.trans g1, g.hh, fun x gx hx => by
        by_cases e : x = p
        · subst e; exact absurd hp hx
        · rw [upd_ne e]; exact g.new x gx hx⟩
      refine c (.ref p) _ _ _ m' (Sx.grow g' g2 S'.vh S'.jd) g' ?_ hq
      exact .dik upd_same (by rw [hkv]; simp) keys (vals _)⟩
end
section
variable {X : Cx} {R : Res} {ρ : List Cell} {e : Expr} {κ : Type} [DecidableEq κ]
def JDE (X : Cx) (R : Res) (ρ : List Cell) (e : Expr) (S : SK κ) (o : Option (List κ)) : Prop := PE X e (tKs (kdS X.prog X.w X.A S) R ρ (lift o))
theorem JDE.of {S : SK κ} {T : M (List κ)} {o : Option (List κ)} (h : PE X e (tKs (kdS X.prog X.w X.A S) R ρ T)) (hi : ∀ q m, lift o q m → T q m) : JDE X R ρ e S o :=
  PE.imp h fun σ H Q ⟨G, m, q, Sx, t, k⟩ => ⟨G, m, q, Sx, hi q m t, k⟩
theorem JDE.lend {S : SK κ} {o : Option (List κ)} (h : JDE X R (brw ρ) e S o) : JDE X R ρ e S o :=
  PE.imp h fun σ H Q ⟨G, m, q, Sx, t, k⟩ => ⟨_, m, q, Sx.lend, t, fun p O as G2 H2 m2 S2 g2 hp gp hO ho hq => by
    obtain ⟨S3, g3, tt⟩ := Sx.unbor S2 g2
    refine k p O as _ H2 m2 S3 g3 hp ?_ hO ho hq
    unfold uns
    by_cases w : Owned σ ρ p
    · rw [if_pos w]
    · rw [if_neg w]; exact gp⟩
theorem JDE.je {S : SK κ} {o : Option (List κ)} (h : JDE X R ρ e S o) : JE X R ρ e (o.map (trueD S)) := (jm_ofKs h).imp fun q m ⟨z, h1, h2⟩ => by
  obtain ⟨l, h3, rfl⟩ := Option.map_eq_some_iff.mp h1
  exact ⟨l, h3, h2⟩
end
section
variable {P : Program} {w : World} {A : Around} {κ : Type} [DecidableEq κ] {S : SK κ}
end
section
variable {X : Cx} {R : Res} {ρ : List Cell} {tg iter kx iter1 : Expr} {ifs ifs1 : List Expr} {scope : Scope} {own : List (Str × Nat)} {pos pos2 p pc px py : Pos} {j i0 i1 k : Nat} {x y : Str} {κ : Type} [DecidableEq κ] {S : SK κ}
end
end Dl

set_option Elab.async false
set_option linter.all false
set_option autoImplicit false
set_option maxRecDepth 100000
set_option maxHeartbeats 1000000
namespace Dl
open PySem L2
section
variable {n : Nat} {ts : List (Nat × Nat)}
def outL (n : Nat) (ts : List (Nat × Nat)) (lot : List Nat) : List Nat := (restL n lot).filter fun p => (nbr n ts p).any fun x => decide (x ∈ lot)
theorem rest_mem {lot : List Nat} {x : Nat} : x ∈ restL n lot ↔ x < n ∧ x ∉ lot := by
  unfold restL
  rw [List.mem_filter, List.mem_range, Bool.not_eq_true', decide_eq_false_iff_not]
theorem out_mem {lot : List Nat} {x : Nat} : x ∈ outL n ts lot ↔ x < n ∧ x ∉ lot ∧ ∃ y ∈ nbr n ts x, y ∈ lot := by
  unfold outL
  rw [List.mem_filter, rest_mem, List.any_eq_true]
  constructor
  · rintro ⟨⟨h1, h2⟩, y, hy, h3⟩
    exact ⟨h1, h2, y, hy, of_decide_eq_true h3⟩
  · rintro ⟨h1, h2, y, hy, h3⟩
    exact ⟨⟨h1, h2⟩, y, hy, decide_eq_true h3⟩
theorem out_asc (lot : List Nat) : Asc (outL n ts lot) := asc_filter _ (asc_filter _ (asc_range n))
structure Walk (n : Nat) (ts : List (Nat × Nat)) (L : List Nat) (s : Nat) (r : List Nat) : Prop where
  ne : r ≠ []
  sub : ∀ x ∈ r, x ∈ L
  nd : r.Nodup
  hd : ∀ x t, r = x :: t → x ∈ nbr n ts s
  st : ∀ pre x y post, r = pre ++ x :: y :: post → y ∈ nbr n ts x
end
section
variable {n : Nat} {ts : List (Nat × Nat)}
end
end Dl

set_option Elab.async false
set_option linter.all false
set_option autoImplicit false
set_option maxRecDepth 100000
set_option maxHeartbeats 1000000
namespace Dl
open PySem L2
structure Ord (n : Nat) (ts : List (Nat × Nat)) (a b : Nat) (xs : List Nat) : Prop where
  nd : xs.Nodup
  lt : ∀ x ∈ xs, x < n
  hd : xs.head? = some a
  lst : xs.getLast? = some b
  two : 2 ≤ xs.length
  btw : ∀ pre x post, xs = pre ++ x :: post → pre ≠ [] → post ≠ [] → (∃ y ∈ pre, y ∈ nbr n ts x) ∧ ∃ y ∈ post, y ∈ nbr n ts x
section
variable {n : Nat} {ts : List (Nat × Nat)} {a b : Nat}
structure Loose (n : Nat) (ts : List (Nat × Nat)) (a b p : Nat) (L : List Nat) : Prop where
  ne : L ≠ []
  asc : Asc L
  lt : ∀ x ∈ L, x < n
  na : a ∉ L
  nb : b ∉ L
  np : p ∉ L
  pl : p < n
  out : ∀ x ∈ outL n ts L, x = p
end
section
variable {n : Nat} {ts : List (Nat × Nat)} {a b : Nat}
end
end Dl

set_option Elab.async false
set_option linter.all false
set_option autoImplicit false
set_option maxRecDepth 100000
set_option maxHeartbeats 1000000
namespace Dl
open PySem L2
section
variable {n : Nat} {ts : List (Nat × Nat)} {a b : Nat}
theorem asc_rises : ∀ {xs : List Nat}, Asc xs → risesB (fun i j : Int => decide (i < j)) (xs.map fun (i : Nat) => (i : Int)) = true
  | [], _ => rfl
  | [_], _ => rfl
  | x :: y :: xs, h => by
    obtain ⟨h1, h2⟩ := List.pairwise_cons.mp h
    have ih := asc_rises h2
    have hxy : (x : Int) < (y : Int) := by
      have := h1 y List.mem_cons_self
      omega
    unfold risesB at *
    show (decide ((x : Int) < (y : Int)) :: stepsB (fun i j : Int => decide (i < j)) ((y :: xs).map fun (i : Nat) => (i : Int))).all id = true
    rw [List.all_cons, ih, decide_eq_true hxy]
    rfl
theorem lotB_asc {L : List Nat} (hA : Asc L) (hL : ∀ x ∈ L, x < n) : lotB n (.tuple (ofN L)) = true := by
  rw [lotB_eq, all_pl hL, Bool.true_and]
  unfold risesD
  rw [ints_ofN]
  exact asc_rises hA
end
end Dl

set_option Elab.async false
set_option linter.all false
set_option autoImplicit false
set_option maxRecDepth 100000
set_option maxHeartbeats 1000000
namespace Dl
open PySem L2
section
variable {α : Type} {X : Cx} {R : Res} {rk : RK α} {ρ : List Cell} {rest : List Stmt} {κ : Kt} {q : α → Nat → Prop} {e ix jx : Expr} {pos p1 p2 p3 p4 pt : Pos} {kt : Nat} {x : Str} {ds : List D}
end
end Dl

set_option Elab.async false
set_option linter.all false
set_option autoImplicit false
set_option maxRecDepth 100000
set_option maxHeartbeats 1000000
namespace Dl
open PySem L2
def tldL (n : Nat) (xs : List Nat) (s : Nat) : List Nat := (List.range n).map fun p => if xs.idxOf p < s then 0 else 1
section
variable {n : Nat} {ts : List (Nat × Nat)} {a b : Nat}
theorem tld_len (xs : List Nat) (s : Nat) : (tldL n xs s).length = n := by
  unfold tldL
  rw [List.length_map, List.length_range]
theorem tld_at {xs : List Nat} {s p : Nat} (h : p < n) : (tldL n xs s).getD p 0 = if xs.idxOf p < s then 0 else 1 := by
  unfold tldL
  rw [List.getD_eq_getElem?_getD, List.getElem?_map, List.getElem?_eq_getElem (by rw [List.length_range]; exact h), List.getElem_range]
  rfl
theorem Ord.rev {xs : List Nat} (O : Ord n ts a b xs) : Ord n ts b a xs.reverse where
  nd := (List.reverse_perm xs).nodup_iff.mpr O.nd
  lt := fun x hx => O.lt x (List.mem_reverse.mp hx)
  hd := by rw [List.head?_reverse]; exact O.lst
  lst := by rw [List.getLast?_reverse]; exact O.hd
  two := by rw [List.length_reverse]; exact O.two
  btw := fun pre x post e h1 h2 => by
    have e2 : xs = post.reverse ++ x :: pre.reverse := by
      have := congrArg List.reverse e
      rw [List.reverse_reverse] at this
      rw [this]
      simp
    obtain ⟨⟨y, hy, hy2⟩, z, hz, hz2⟩ := O.btw _ _ _ e2 (by simpa using h2) (by simpa using h1)
    exact ⟨⟨z, List.mem_reverse.mp hz, hz2⟩, y, List.mem_reverse.mp hy, hy2⟩
theorem Ord.pos {xs : List Nat} (O : Ord n ts a b xs) : xs ≠ [] := fun e => by
  have := O.two
  rw [e, List.length_nil] at this
  omega
theorem Ord.memA {xs : List Nat} (O : Ord n ts a b xs) : a ∈ xs := List.mem_of_mem_head? O.hd
theorem Ord.memB {xs : List Nat} (O : Ord n ts a b xs) : b ∈ xs := List.mem_of_getLast? O.lst
theorem Ord.ne {xs : List Nat} (O : Ord n ts a b xs) : a ≠ b := fun e => by
  match xs, O.two, O.hd, O.lst, O.nd with
  | x :: y :: r, _, h1, h2, h3 =>
    have h1 : x = a := by simpa using h1
    have h2 : (y :: r).getLast? = some b := by
      rw [← h2]
      simp [List.getLast?_cons_cons]
    have := List.mem_of_getLast? h2
    exact (List.nodup_cons.mp h3).1 (h1 ▸ e ▸ this)
/-- the first places of an order hang together: all reach the first -/
theorem Ord.reach (W : Wb n ts) {xs : List Nat} (O : Ord n ts a b xs) : ∀ (k : Nat), k + 1 < xs.length → ∀ x ∈ xs.take (k + 1), Rch n ts (xs.take (k + 1)) x a
  | 0, hk, x, hx => by
    match xs, O.hd, hk, hx with
    | y :: r, h1, _, hx =>
      have h1 : y = a := by simpa using h1
      have hx : x = y := by simpa using hx
      rw [hx, h1]
      exact .base
  | k + 1, hk, x, hx => by
    have ih := Ord.reach W O k (by omega)
    have e : xs.take (k + 1 + 1) = xs.take (k + 1) ++ [xs[k + 1]] := by
      rw [List.take_add_one, List.getElem?_eq_getElem (by omega)]
      rfl
    have e2 : xs = xs.take (k + 1) ++ xs[k + 1] :: xs.drop (k + 2) := by
      conv => lhs; rw [← List.take_append_drop (k + 1) xs, List.drop_eq_getElem_cons (by omega)]
    have sub : ∀ y ∈ xs.take (k + 1), y ∈ xs.take (k + 1 + 1) := fun y hy => by rw [e]; exact List.mem_append_left _ hy
    rcases List.mem_append.mp (e ▸ hx) with hx | hx
    · exact (ih x hx).wide sub
    · have hx := List.mem_singleton.mp hx
      obtain ⟨⟨y, hy, hy2⟩, _⟩ := O.btw _ _ _ e2 (fun h => by
        have := congrArg List.length h
        rw [List.length_take, List.length_nil] at this
        omega) (fun h => by
        have := congrArg List.length h
        rw [List.length_drop, List.length_nil] at this
        omega)
      rw [hx]
      exact Rch.trans (.step .base hy2 (sub y hy)) ((ih y hy).wide sub)
theorem Ord.hang (W : Wb n ts) {xs : List Nat} (O : Ord n ts a b xs) {k : Nat} (h0 : 1 ≤ k) (hk : k < xs.length) : Hangs n ts (xs.take k) := by
  obtain ⟨j, rfl⟩ : ∃ j, k = j + 1 := ⟨k - 1, by omega⟩
  refine ⟨fun e => ?_, fun p hp q hq => ?_⟩
  · have := congrArg List.length e
    rw [List.length_take, List.length_nil] at this
    omega
  · exact Rch.trans (O.reach W j hk p hp) ((O.reach W j hk q hq).symm W hq)
theorem Ord.hang2 (W : Wb n ts) {xs : List Nat} (O : Ord n ts a b xs) {k : Nat} (h0 : 1 ≤ k) (hk : k < xs.length) : Hangs n ts (xs.drop k).reverse := by
  have := O.rev.hang W (k := xs.length - k) (by omega) (by rw [List.length_reverse]; omega)
  rw [List.take_reverse] at this
  rwa [show xs.length - (xs.length - k) = k by omega] at this
theorem Hangs.same {l1 l2 : List Nat} (h : Hangs n ts l1) (hm : ∀ x, x ∈ l1 ↔ x ∈ l2) : Hangs n ts l2 := by
  obtain ⟨h1, h2⟩ := h
  refine ⟨fun e => ?_, fun p hp q hq => (h2 p ((hm p).mpr hp) q ((hm q).mpr hq)).wide fun x hx => (hm x).mp hx⟩
  obtain ⟨x, hx⟩ := List.exists_mem_of_ne_nil _ h1
  have := (hm x).mp hx
  rw [e] at this
  cases this
theorem idx_take : ∀ {xs : List Nat} {s x : Nat}, x ∈ xs → (xs.idxOf x < s ↔ x ∈ xs.take s)
  | y :: ys, 0, x, _ => by simp
  | y :: ys, s + 1, x, h => by
    by_cases c : y = x
    · subst c
      simp
    · have h2 : x ∈ ys := by
        rcases List.mem_cons.mp h with h | h
        · exact absurd h.symm c
        · exact h
      have ih := idx_take (xs := ys) (s := s) h2
      rw [List.idxOf_cons, show (y == x) = false by simpa using c, cond_false, List.take_succ_cons, List.mem_cons]
      constructor
      · intro h
        exact .inr (ih.mp (by omega))
      · rintro (h | h)
        · exact absurd h.symm c
        · have := ih.mpr h
          omega
theorem Ord.all {xs : List Nat} (O : Ord n ts a b xs) (hl : xs.length = n) : ∀ p, p < n → p ∈ xs := fun p hp => by
  by_cases h : p ∈ xs
  · exact h
  · have := few_in (E := List.range n) (ks := p :: xs) (List.nodup_cons.mpr ⟨h, O.nd⟩) fun y hy => by
      rcases List.mem_cons.mp hy with rfl | hy
      · exact List.mem_range.mpr hp
      · exact List.mem_range.mpr (O.lt y hy)
    rw [List.length_cons, List.length_range] at this
    omega
theorem len_eq {l1 l2 : List Nat} (h1 : l1.Nodup) (h2 : l2.Nodup) (hm : ∀ x, x ∈ l1 ↔ x ∈ l2) : l1.length = l2.length := ((List.perm_ext_iff_of_nodup h1 h2).mpr hm).length_eq
/-- an order gives parts for every size -/
theorem Ord.part0 {xs : List Nat} (O : Ord n ts a b xs) (hl : xs.length = n) (s x : Nat) : x ∈ partL (tldL n xs s) 0 ↔ x ∈ xs.take s := by
  rw [part_mem, tld_len]
  constructor
  · rintro ⟨h1, h2⟩
    rw [tld_at h1] at h2
    refine (idx_take (O.all hl x h1)).mp ?_
    by_cases c : xs.idxOf x < s
    · exact c
    · rw [if_neg c] at h2
      cases h2
  · intro h
    have hx := O.lt x (List.mem_of_mem_take h)
    exact ⟨hx, by rw [tld_at hx, if_pos ((idx_take (List.mem_of_mem_take h)).mpr h)]⟩
theorem nd_drop {xs : List Nat} (h : xs.Nodup) (s x : Nat) : x ∈ xs.drop s ↔ x ∈ xs ∧ x ∉ xs.take s := by
  rw [← List.take_append_drop s xs] at h
  have := List.nodup_append.mp h
  constructor
  · intro hx
    exact ⟨List.mem_of_mem_drop hx, fun h3 => this.2.2 x h3 x hx rfl⟩
  · rintro ⟨h1, h2⟩
    rw [← List.take_append_drop s xs] at h1
    rcases List.mem_append.mp h1 with h1 | h1
    · exact absurd h1 h2
    · exact h1
theorem Ord.part1 {xs : List Nat} (O : Ord n ts a b xs) (hl : xs.length = n) (s x : Nat) : x ∈ partL (tldL n xs s) 1 ↔ x ∈ xs.drop s := by
  rw [part_mem, tld_len, nd_drop O.nd]
  constructor
  · rintro ⟨h1, h2⟩
    rw [tld_at h1] at h2
    refine ⟨O.all hl x h1, fun h => ?_⟩
    rw [if_pos ((idx_take (O.all hl x h1)).mpr h)] at h2
    cases h2
  · rintro ⟨h1, h2⟩
    have hx := O.lt x h1
    exact ⟨hx, by rw [tld_at hx, if_neg fun h => h2 ((idx_take h1).mp h)]⟩
theorem Ord.len0 {xs : List Nat} (O : Ord n ts a b xs) (hl : xs.length = n) {s : Nat} (hs : s ≤ n) : (partL (tldL n xs s) 0).length = s := by
  rw [len_eq part_nodup (O.nd.sublist (List.take_sublist s xs)) (O.part0 hl s), List.length_take]
  omega
theorem Ord.len1 {xs : List Nat} (O : Ord n ts a b xs) (hl : xs.length = n) {s : Nat} (hs : s ≤ n) : (partL (tldL n xs s) 1).length = n - s := by
  rw [len_eq part_nodup (O.nd.sublist (List.drop_sublist s xs)) (O.part1 hl s), List.length_drop, hl]
theorem Ord.hang0 (W : Wb n ts) {xs : List Nat} (O : Ord n ts a b xs) (hl : xs.length = n) {s : Nat} (h0 : 1 ≤ s) (hs : s < n) : Hangs n ts (partL (tldL n xs s) 0) := (O.hang W h0 (by omega)).same fun x => (O.part0 hl s x).symm
theorem Ord.hang1 (W : Wb n ts) {xs : List Nat} (O : Ord n ts a b xs) (hl : xs.length = n) {s : Nat} (h0 : 1 ≤ s) (hs : s < n) : Hangs n ts (partL (tldL n xs s) 1) := (O.hang2 W h0 (by omega)).same fun x => by rw [List.mem_reverse, O.part1 hl s x]
theorem Ord.at0 {xs : List Nat} (O : Ord n ts a b xs) (hl : xs.length = n) {s : Nat} (h0 : 1 ≤ s) : (tldL n xs s).getD a 0 = 0 := by
  have : a ∈ xs.take s := by
    match xs, O.hd, s, h0 with
    | y :: r, h1, s + 1, _ =>
      have h1 : y = a := by simpa using h1
      rw [List.take_succ_cons, h1]
      exact List.mem_cons_self
  exact (part_mem.mp ((O.part0 hl s a).mpr this)).2
theorem Ord.at1 {xs : List Nat} (O : Ord n ts a b xs) (hl : xs.length = n) {s : Nat} (hs : s < n) : (tldL n xs s).getD b 0 = 1 := by
  have : b ∈ xs.drop s := by
    refine List.mem_of_getLast? ?_
    rw [List.getLast?_drop, if_neg (by omega)]
    exact O.lst
  exact (part_mem.mp ((O.part1 hl s b).mpr this)).2
theorem Ord.deal {xs : List Nat} (O : Ord n ts a b xs) (hl : xs.length = n) {s : Nat} (h0 : 1 ≤ s) (hs : s < n) : Deal n [a, b] [s, n - s] where
  lo := by simp
  hi := by have := O.two; simp only [List.length_cons, List.length_nil]; omega
  nd := by
    have := O.ne
    simp [this]
  lt := fun r hr => by
    rcases List.mem_cons.mp hr with rfl | hr
    · exact O.lt _ O.memA
    · rw [List.mem_singleton.mp hr]; exact O.lt _ O.memB
  len := rfl
  pos := fun r hr => by
    rcases List.mem_cons.mp hr with rfl | hr
    · exact h0
    · rw [List.mem_singleton.mp hr]; omega
  sum := by simp; omega
theorem Ord.parts (W : Wb n ts) {xs : List Nat} (O : Ord n ts a b xs) (hl : xs.length = n) {s : Nat} (h0 : 1 ≤ s) (hs : s < n) : partsB n ts [a, b] [s, n - s] ((tldL n xs s).map fun (i : Nat) => (i : Int)) = true := by
  refine partsB_iff.mpr fun i hi => ?_
  match i, hi with
  | 0, _ => exact ⟨O.at0 hl h0, O.len0 hl (by omega), O.hang0 W hl h0 hs⟩
  | 1, _ => exact ⟨O.at1 hl hs, O.len1 hl (by omega), O.hang1 W hl h0 hs⟩
theorem Loose.stay {p : Nat} {L : List Nat} (h : Loose n ts a b p L) {lot : List Nat} (hp : p ∉ lot) {x y : Nat} (hx : x ∈ L) (r : Rch n ts lot x y) (W : Wb n ts) : y ∈ L := by
  induction r with
  | base => exact hx
  | @step u v r h1 h2 ih =>
    by_cases c : v ∈ L
    · exact c
    · have : v ∈ outL n ts L := out_mem.mpr ⟨nbr_lt h1, c, u, nbr_symm W h1, ih⟩
      exact absurd (h.out v this ▸ h2) hp
end
end Dl

set_option Elab.async false
set_option linter.all false
set_option autoImplicit false
set_option maxRecDepth 100000
set_option maxHeartbeats 1000000
namespace Dl
open PySem L2
end Dl
namespace Dl
open PySem L2 PySem.Spec PyProof.Rows
section
variable {X : Cx} {pins : List (Addr × Obj)} {σ : L2.St} {H : Hp} {s : Shared} {p : Addr} {od : Obj} {L : List Ent}
end
section
variable {X : Cx} {R : Res} {ρ : List Cell} {tg iter kx vx : Expr} {scope : Scope} {own : List (Str × Nat)} {pos : Pos} {k : Nat}
end
end Dl

set_option Elab.async false
set_option linter.all false
set_option autoImplicit false
set_option maxRecDepth 100000
set_option maxHeartbeats 1000000
namespace Dl
open PySem L2
end Dl
namespace Dl
open PySem L2 PySem.Spec PyProof.Rows
section
variable {prog : Program} {w : World} {A : Around} {E : Value → Shared → Prop} {s : Shared}
end
section
variable {X : Cx} {R : Res} {ρ : List Cell} {e st : Expr} {te : TE} {ts : TO} {p3 pos : Pos}
end
end Dl

set_option Elab.async false
set_option linter.all false
set_option autoImplicit false
set_option maxRecDepth 100000
set_option maxHeartbeats 1000000
namespace Dl
open PySem L2
theorem nbr_irr {n : Nat} {ts : List (Nat × Nat)} {p : Nat} (h : p ∈ nbr n ts p) : False := by
  unfold nbr at h
  have := (List.mem_filter.mp h).2
  simp at this
abbrev Nd := Nat × Nat
abbrev Ac := Nd × Nd
section
variable {n : Nat} {ts : List (Nat × Nat)} {a b : Nat} {F G : List Ac}
def inner (p : Nat) : Ac := ((p, 0), (p, 1))
def stepsF (n : Nat) (ts : List (Nat × Nat)) (F : List Ac) (v : Nd) : List Nd :=
  if v.2 = 0 then (if inner v.1 ∈ F then [] else [(v.1, 1)]) ++ ((nbr n ts v.1).filter fun o => decide (((o, 1), v) ∈ F)).map fun o => (o, 1)
  else (if inner v.1 ∈ F then [(v.1, 0)] else []) ++ (nbr n ts v.1).map fun o => (o, 0)
/-- what a step is -/
theorem step_cases {u v : Nd} (h : v ∈ stepsF n ts F u) : (u.2 = 0 ∧ v = (u.1, 1) ∧ inner u.1 ∉ F) ∨ (u.2 = 0 ∧ ∃ o, o ∈ nbr n ts u.1 ∧ v = (o, 1) ∧ ((o, 1), u) ∈ F) ∨ (u.2 ≠ 0 ∧ v = (u.1, 0) ∧ inner u.1 ∈ F) ∨ (u.2 ≠ 0 ∧ ∃ o, o ∈ nbr n ts u.1 ∧ v = (o, 0)) := by
  unfold stepsF at h
  by_cases c : u.2 = 0
  · rw [if_pos c] at h
    rcases List.mem_append.mp h with h | h
    · by_cases d : inner u.1 ∈ F
      · rw [if_pos d] at h; cases h
      · rw [if_neg d] at h
        exact .inl ⟨c, List.mem_singleton.mp h, d⟩
    · obtain ⟨o, ho, rfl⟩ := List.mem_map.mp h
      obtain ⟨h1, h2⟩ := List.mem_filter.mp ho
      exact .inr (.inl ⟨c, o, h1, rfl, of_decide_eq_true h2⟩)
  · rw [if_neg c] at h
    rcases List.mem_append.mp h with h | h
    · by_cases d : inner u.1 ∈ F
      · rw [if_pos d] at h
        exact .inr (.inr (.inl ⟨c, List.mem_singleton.mp h, d⟩))
      · rw [if_neg d] at h; cases h
    · obtain ⟨o, ho, rfl⟩ := List.mem_map.mp h
      exact .inr (.inr (.inr ⟨c, o, ho, rfl⟩))
def Vn (n : Nat) (v : Nd) : Prop := v.1 < n ∧ v.2 ≤ 1
def outF (F : List Ac) (v : Nd) : Nat := F.countP fun e => decide (e.1 = v)
def inF (F : List Ac) (v : Nd) : Nat := F.countP fun e => decide (e.2 = v)
/-- arcs that a flow may have -/
def OkA (n : Nat) (ts : List (Nat × Nat)) (a b : Nat) (e : Ac) : Prop := (∃ p, p < n ∧ p ≠ a ∧ p ≠ b ∧ e = inner p) ∨ ∃ p q, q ∈ nbr n ts p ∧ p ≠ b ∧ q ≠ a ∧ e = ((p, 1), (q, 0))
structure Flw (n : Nat) (ts : List (Nat × Nat)) (a b : Nat) (F : List Ac) (k : Nat) : Prop where
  nd : F.Nodup
  ok : ∀ e ∈ F, OkA n ts a b e
  bal : ∀ v, v ≠ (a, 1) → v ≠ (b, 0) → outF F v = inF F v
  src : outF F (a, 1) = k
theorem cnt_le {p : Ac → Bool} {x : Ac} (nd : F.Nodup) (h : ∀ e ∈ F, p e = true → e = x) : F.countP p ≤ 1 := by
  induction F with
  | nil => exact Nat.zero_le _
  | cons e F ih =>
    have nd := List.nodup_cons.mp nd
    rw [List.countP_cons]
    by_cases c : p e = true
    · have e1 := h e List.mem_cons_self c
      have z : F.countP p = 0 := by
        rw [List.countP_eq_zero]
        intro y hy hp
        have e2 := h y (List.mem_cons_of_mem _ hy) hp
        exact nd.1 (e1.trans e2.symm ▸ hy)
      rw [z]
      split <;> omega
    · have := ih nd.2 fun y hy => h y (List.mem_cons_of_mem _ hy)
      rw [if_neg c]
      omega
theorem cntA_pos {p : Ac → Bool} {x : Ac} (hx : x ∈ F) (hp : p x = true) : 1 ≤ F.countP p := List.countP_pos_iff.mpr ⟨x, hx, hp⟩
theorem cnt_two {p : Ac → Bool} {x y : Ac} (nd : F.Nodup) (hx : x ∈ F) (hy : y ∈ F) (h1 : p x = true) (h2 : p y = true) (hle : F.countP p ≤ 1) : x = y := by
  induction F with
  | nil => cases hx
  | cons e F ih =>
    have nd := List.nodup_cons.mp nd
    rw [List.countP_cons] at hle
    by_cases c1 : x = e
    · by_cases c2 : y = e
      · rw [c1, c2]
      · have hy2 : y ∈ F := (List.mem_cons.mp hy).resolve_left c2
        have := cntA_pos hy2 h2
        rw [c1] at h1
        rw [if_pos h1] at hle
        omega
    · have hx2 : x ∈ F := (List.mem_cons.mp hx).resolve_left c1
      by_cases c2 : y = e
      · have := cntA_pos hx2 h1
        rw [c2] at h2
        rw [if_pos h2] at hle
        omega
      · exact ih nd.2 hx2 ((List.mem_cons.mp hy).resolve_left c2) (by omega)
section
variable {k : Nat} (f : Flw n ts a b F k)
include f
theorem Flw.outFirst (p : Nat) : outF F (p, 0) ≤ 1 := cnt_le (x := inner p) f.nd fun e he h => by
  have h := of_decide_eq_true h
  rcases f.ok e he with ⟨q, _, _, _, rfl⟩ | ⟨q, r, _, _, _, rfl⟩
  · have : q = p := congrArg Prod.fst h
    rw [this]
  · have : (1 : Nat) = 0 := congrArg Prod.snd h
    cases this
theorem Flw.inLast (p : Nat) : inF F (p, 1) ≤ 1 := cnt_le (x := inner p) f.nd fun e he h => by
  have h := of_decide_eq_true h
  rcases f.ok e he with ⟨q, _, _, _, rfl⟩ | ⟨q, r, _, _, _, rfl⟩
  · have : q = p := congrArg Prod.fst h
    rw [this]
  · have : (0 : Nat) = 1 := congrArg Prod.snd h
    cases this
theorem Flw.innerOut {p : Nat} (h : 1 ≤ outF F (p, 0)) : inner p ∈ F := by
  obtain ⟨e, he, h⟩ := List.countP_pos_iff.mp (show 0 < F.countP fun e => decide (e.1 = (p, 0)) from h)
  have h := of_decide_eq_true h
  rcases f.ok e he with ⟨q, _, _, _, rfl⟩ | ⟨q, r, _, _, _, rfl⟩
  · have : q = p := congrArg Prod.fst h
    exact this ▸ he
  · have : (1 : Nat) = 0 := congrArg Prod.snd h
    cases this
theorem Flw.innerIn {p : Nat} (h : 1 ≤ inF F (p, 1)) : inner p ∈ F := by
  obtain ⟨e, he, h⟩ := List.countP_pos_iff.mp (show 0 < F.countP fun e => decide (e.2 = (p, 1)) from h)
  have h := of_decide_eq_true h
  rcases f.ok e he with ⟨q, _, _, _, rfl⟩ | ⟨q, r, _, _, _, rfl⟩
  · have : q = p := congrArg Prod.fst h
    exact this ▸ he
  · have : (0 : Nat) = 1 := congrArg Prod.snd h
    cases this
theorem Flw.noA (r : Nat) : ((r, 1), (a, 0)) ∉ F := fun h => by
  rcases f.ok _ h with ⟨q, _, _, _, e⟩ | ⟨q, r', _, _, h2, e⟩
  · have : (1 : Nat) = 0 := congrArg (fun z => z.1.2) e
    cases this
  · exact h2 (congrArg (fun z => z.2.1) e).symm
theorem Flw.noB (r : Nat) : ((b, 1), (r, 0)) ∉ F := fun h => by
  rcases f.ok _ h with ⟨q, _, _, _, e⟩ | ⟨q, r', _, h2, _, e⟩
  · have : (1 : Nat) = 0 := congrArg (fun z => z.1.2) e
    cases this
  · exact h2 (congrArg (fun z => z.1.1) e).symm
theorem Flw.inA : inF F (a, 1) = 0 := by
  have := f.inLast a
  by_cases c : 1 ≤ inF F (a, 1)
  · exfalso
    rcases f.ok _ (f.innerIn c) with ⟨q, _, h2, _, e⟩ | ⟨q, r', _, _, _, e⟩
    · exact h2 (congrArg (fun z => z.1.1) e).symm
    · have : (0 : Nat) = 1 := congrArg (fun z => z.1.2) e
      cases this
  · omega
/-- the only arc into a place, the only one out of it -/
theorem Flw.oneIn {p r s : Nat} (hb : p ≠ b) (h1 : ((r, 1), (p, 0)) ∈ F) (h2 : ((s, 1), (p, 0)) ∈ F) : r = s := by
  have hbal := f.bal (p, 0) (fun e => by have : (0 : Nat) = 1 := congrArg Prod.snd e; cases this) (fun e => hb (congrArg Prod.fst e))
  have hle := f.outFirst p
  have := cnt_two (p := fun e : Ac => decide (e.2 = (p, 0))) f.nd h1 h2 (decide_eq_true rfl) (decide_eq_true rfl) (show inF F (p, 0) ≤ 1 by omega)
  exact congrArg (fun z => z.1.1) this
theorem Flw.oneOut {p r s : Nat} (ha : p ≠ a) (h1 : ((p, 1), (r, 0)) ∈ F) (h2 : ((p, 1), (s, 0)) ∈ F) : r = s := by
  have hbal := f.bal (p, 1) (fun e => ha (congrArg Prod.fst e)) (fun e => by have : (1 : Nat) = 0 := congrArg Prod.snd e; cases this)
  have hle := f.inLast p
  have := cnt_two (p := fun e : Ac => decide (e.1 = (p, 1))) f.nd h1 h2 (decide_eq_true rfl) (decide_eq_true rfl) (show outF F (p, 1) ≤ 1 by omega)
  exact congrArg (fun z => z.2.1) this
theorem Flw.intoInner {p r : Nat} (hb : p ≠ b) (h : ((r, 1), (p, 0)) ∈ F) : inner p ∈ F := by
  have hbal := f.bal (p, 0) (fun e => by have : (0 : Nat) = 1 := congrArg Prod.snd e; cases this) (fun e => hb (congrArg Prod.fst e))
  have : 1 ≤ inF F (p, 0) := cntA_pos h (decide_eq_true rfl)
  exact f.innerOut (by omega)
theorem Flw.outInner {p r : Nat} (ha : p ≠ a) (h : ((p, 1), (r, 0)) ∈ F) : inner p ∈ F := by
  have hbal := f.bal (p, 1) (fun e => ha (congrArg Prod.fst e)) (fun e => by have : (1 : Nat) = 0 := congrArg Prod.snd e; cases this)
  have : 1 ≤ outF F (p, 1) := cntA_pos h (decide_eq_true rfl)
  exact f.innerIn (by omega)
theorem Flw.innerNext {p : Nat} (hi : inner p ∈ F) : ∃ r, r ∈ nbr n ts p ∧ ((p, 1), (r, 0)) ∈ F := by
  have hpa : p ≠ a := fun e => by
    have := f.inA
    have h1 : 1 ≤ inF F (a, 1) := cntA_pos (e ▸ hi) (decide_eq_true rfl)
    omega
  have hbal := f.bal (p, 1) (fun e => hpa (congrArg Prod.fst e)) (fun e => by have : (1 : Nat) = 0 := congrArg Prod.snd e; cases this)
  have h1 : 1 ≤ inF F (p, 1) := cntA_pos hi (decide_eq_true rfl)
  obtain ⟨e, he, h⟩ := List.countP_pos_iff.mp (show 0 < F.countP fun e => decide (e.1 = (p, 1)) from by
    have : 1 ≤ outF F (p, 1) := by omega
    exact this)
  have h := of_decide_eq_true h
  rcases f.ok e he with ⟨q, _, _, _, rfl⟩ | ⟨q, r, hr, _, _, rfl⟩
  · have : (0 : Nat) = 1 := congrArg Prod.snd h
    cases this
  · have : q = p := congrArg Prod.fst h
    subst this
    exact ⟨r, hr, he⟩
end
/-- one step of a way put to a flow -/
def aug1 (F : List Ac) (u v : Nd) : List Ac := if (v, u) ∈ F then F.erase (v, u) else if (u, v) ∈ F then F else F ++ [(u, v)]
/-- a way back, its end first -/
def augR : List Ac → List Nd → List Ac
  | F, v :: u :: R => augR (aug1 F u v) (u :: R)
  | F, _ => F
def ResA (n : Nat) (ts : List (Nat × Nat)) (a b : Nat) (F : List Ac) (u v : Nd) : Prop := (v, u) ∈ F ∨ ((v, u) ∉ F ∧ (u, v) ∉ F ∧ OkA n ts a b (u, v))
theorem aug1_mem {u v : Nd} {e : Ac} (h : e ∈ aug1 F u v) : e ∈ F ∨ e = (u, v) := by
  unfold aug1 at h
  split at h
  · exact .inl (List.mem_of_mem_erase h)
  · split at h
    · exact .inl h
    · rcases List.mem_append.mp h with h | h
      · exact .inl h
      · exact .inr (List.mem_singleton.mp h)
theorem aug1_nd {u v : Nd} (nd : F.Nodup) : (aug1 F u v).Nodup := by
  unfold aug1
  split
  · exact nd.erase _
  · split
    · exact nd
    · rename_i h
      exact List.nodup_append.mpr ⟨nd, by simp, fun x hx y hy e => h (by rw [← List.mem_singleton.mp hy, ← e]; exact hx)⟩
/-- other arcs stay as they are -/
theorem aug1_other {u v : Nd} {e : Ac} (nd : F.Nodup) (h1 : e ≠ (u, v)) (h2 : e ≠ (v, u)) : e ∈ aug1 F u v ↔ e ∈ F := by
  unfold aug1
  split
  · exact ⟨List.mem_of_mem_erase, fun h => (List.mem_erase_of_ne h2).mpr h⟩
  · split
    · exact Iff.rfl
    · rw [List.mem_append, List.mem_singleton]
      exact ⟨fun h => h.elim id fun h => absurd h h1, .inl⟩
theorem cnt_erase {p : Ac → Bool} {x : Ac} (hx : x ∈ F) : (F.erase x).countP p + (if p x = true then 1 else 0) = F.countP p := by
  induction F with
  | nil => cases hx
  | cons e F ih =>
    by_cases c : e = x
    · subst c
      rw [List.erase_cons_head, List.countP_cons]
    · rw [List.erase_cons_tail (by simpa using c), List.countP_cons, List.countP_cons]
      have := ih ((List.mem_cons.mp hx).resolve_left fun e => c e.symm)
      omega
theorem aug1_bal {u v : Nd} (hr : (v, u) ∈ F ∨ ((v, u) ∉ F ∧ (u, v) ∉ F)) (w : Nd) : outF (aug1 F u v) w + inF F w + (if w = v then 1 else 0) = outF F w + inF (aug1 F u v) w + (if w = u then 1 else 0) := by
  unfold aug1 outF inF
  rcases hr with h | ⟨h, h2⟩
  · rw [if_pos h]
    have e1 := cnt_erase (p := fun e => decide (e.1 = w)) h
    have e2 := cnt_erase (p := fun e => decide (e.2 = w)) h
    simp only [decide_eq_true_eq] at e1 e2
    by_cases c1 : w = v
    · by_cases c2 : w = u
      · rw [if_pos c1, if_pos c2]
        rw [if_pos c1.symm] at e1
        rw [if_pos c2.symm] at e2
        omega
      · rw [if_pos c1, if_neg c2]
        rw [if_pos c1.symm] at e1
        rw [if_neg (fun e => c2 e.symm)] at e2
        omega
    · by_cases c2 : w = u
      · rw [if_neg c1, if_pos c2]
        rw [if_neg (fun e => c1 e.symm)] at e1
        rw [if_pos c2.symm] at e2
        omega
      · rw [if_neg c1, if_neg c2]
        rw [if_neg (fun e => c1 e.symm)] at e1
        rw [if_neg (fun e => c2 e.symm)] at e2
        omega
  · rw [if_neg h, if_neg h2, List.countP_append, List.countP_append, List.countP_singleton, List.countP_singleton]
    simp only [decide_eq_true_eq]
    by_cases c1 : w = v
    · by_cases c2 : w = u
      · rw [if_pos c1, if_pos c2, if_pos c1.symm, if_pos c2.symm]
        omega
      · rw [if_pos c1, if_neg c2, if_pos c1.symm, if_neg (fun e : u = w => c2 e.symm)]
        omega
    · by_cases c2 : w = u
      · rw [if_neg c1, if_pos c2, if_neg (fun e : v = w => c1 e.symm), if_pos c2.symm]
        omega
      · rw [if_neg c1, if_neg c2, if_neg (fun e : v = w => c1 e.symm), if_neg (fun e : u = w => c2 e.symm)]
        omega
theorem augR_ok : ∀ (R : List Nd) (F : List Ac) (h t : Nd), R.Nodup → R.head? = some h → R.getLast? = some t → F.Nodup → (∀ e ∈ F, OkA n ts a b e) → (∀ pre v u post, R = pre ++ v :: u :: post → ResA n ts a b F u v) →
    (augR F R).Nodup ∧ (∀ e ∈ augR F R, OkA n ts a b e) ∧ ∀ w, outF (augR F R) w + inF F w + (if w = h then 1 else 0) = outF F w + inF (augR F R) w + (if w = t then 1 else 0)
  | [], F, h, t, _, hh, _, _, _, _ => by cases hh
  | [v], F, h, t, _, hh, ht, nd, ok, _ => by
    have e1 : v = h := by simpa using hh
    have e2 : v = t := by simpa using ht
    subst e1
    subst e2
    refine ⟨nd, ok, fun w => ?_⟩
    show outF F w + inF F w + _ = outF F w + inF F w + _
    rfl
  | v :: u :: R, F, h, t, hn, hh, ht, nd, ok, hr => by
    have e1 : v = h := by simpa using hh
    subst e1
    have r0 := hr [] v u R rfl
    have hn2 := List.nodup_cons.mp hn
    have ok1 : ∀ e ∈ aug1 F u v, OkA n ts a b e := fun e he => by
      rcases r0 with r0 | r0
      · unfold aug1 at he
        rw [if_pos r0] at he
        exact ok e (List.mem_of_mem_erase he)
      · rcases aug1_mem he with he | he
        · exact ok e he
        · rw [he]; exact r0.2.2
    have hr1 : ∀ pre v' u' post, u :: R = pre ++ v' :: u' :: post → ResA n ts a b (aug1 F u v) u' v' := fun pre v' u' post e => by
      have hv : v ∉ pre ++ v' :: u' :: post := e ▸ hn2.1
      have hv' : v ≠ v' := fun z => hv (by rw [z]; simp)
      have hu' : v ≠ u' := fun z => hv (by rw [z]; simp)
      have r1 := hr (v :: pre) v' u' post (by rw [e]; rfl)
      have m1 := aug1_other (F := F) (u := u) (v := v) (e := (v', u')) nd (fun z => hu' (congrArg Prod.snd z).symm) (fun z => hv' (congrArg Prod.fst z).symm)
      have m2 := aug1_other (F := F) (u := u) (v := v) (e := (u', v')) nd (fun z => hv' (congrArg Prod.snd z).symm) (fun z => hu' (congrArg Prod.fst z).symm)
      rcases r1 with r1 | ⟨r1, r2, r3⟩
      · exact .inl (m1.mpr r1)
      · exact .inr ⟨fun z => r1 (m1.mp z), fun z => r2 (m2.mp z), r3⟩
    have ht1 : (u :: R).getLast? = some t := by rw [← ht, List.getLast?_cons_cons]
    obtain ⟨i1, i2, i3⟩ := augR_ok (u :: R) (aug1 F u v) u t hn2.2 rfl ht1 (aug1_nd nd) ok1 hr1
    refine ⟨i1, i2, fun w => ?_⟩
    have b1 := aug1_bal (F := F) (u := u) (v := v) (r0.imp id fun h => ⟨h.1, h.2.1⟩) w
    have b2 := i3 w
    show outF (augR (aug1 F u v) (u :: R)) w + _ + _ = _ + inF (augR (aug1 F u v) (u :: R)) w + _
    omega
theorem last_appG {α : Type} {l1 l2 : List α} (h : l2 ≠ []) : (l1 ++ l2).getLast? = l2.getLast? := by
  rw [List.getLast?_append]
  cases e : l2.getLast? with
  | none => exact absurd (List.getLast?_eq_none_iff.mp e) h
  | some x => rfl
/-- a way back by steps beside the flow -/
structure WayB (n : Nat) (ts : List (Nat × Nat)) (a b : Nat) (F : List Ac) (R : List Nd) : Prop where
  nd : R.Nodup
  hd : R.head? = some (b, 0)
  lst : R.getLast? = some (a, 1)
  st : ∀ pre v u post, R = pre ++ v :: u :: post → v ∈ stepsF n ts F u
  vn : ∀ v ∈ R, Vn n v
theorem WayB.res {k : Nat} (f : Flw n ts a b F k) (hne : a ≠ b) (hab : b ∉ nbr n ts a) {R : List Nd} (h : WayB n ts a b F R) : ∀ pre v u post, R = pre ++ v :: u :: post → ResA n ts a b F u v := fun pre v u post e => by
  have hs := h.st pre v u post e
  have hvu := h.vn u (by rw [e]; simp)
  -- the head is not further down, the last not further up
  have hhead : ∀ x, x ∈ u :: post → x ≠ (b, 0) := fun x hx z => by
    have hh := h.hd
    rw [e] at hh
    have nd := h.nd
    rw [e] at nd
    cases pre with
    | nil =>
      have : v = (b, 0) := by simpa using hh
      have h2 := (List.nodup_cons.mp nd).1
      exact h2 (by rw [this, ← z]; exact hx)
    | cons y pre =>
      have : y = (b, 0) := by simpa using hh
      have h2 := (List.nodup_cons.mp nd).1
      refine h2 ?_
      rw [this, ← z]
      exact List.mem_append_right _ (List.mem_cons_of_mem _ hx)
  have hlast : ∀ x, x ∈ pre ++ [v] → x ≠ (a, 1) := fun x hx z => by
    have hl : (u :: post).getLast? = some (a, 1) := by
      have := h.lst
      rw [e] at this
      rw [← this, show pre ++ v :: u :: post = (pre ++ [v]) ++ (u :: post) by simp, last_appG (by simp)]
    have hm := List.mem_of_getLast? hl
    have nd := h.nd
    rw [e, show pre ++ v :: u :: post = (pre ++ [v]) ++ (u :: post) by simp] at nd
    exact (List.nodup_append.mp nd).2.2 x hx (a, 1) hm z
  have hpost : u ≠ (a, 1) → ∃ w post', post = w :: post' ∧ u ∈ stepsF n ts F w := fun hne => by
    cases post with
    | nil =>
      exfalso
      have := h.lst
      rw [e, show pre ++ v :: [u] = (pre ++ [v]) ++ [u] by simp, List.getLast?_append] at this
      simp at this
      exact hne this
    | cons w post' => exact ⟨w, post', rfl, h.st (pre ++ [v]) u w post' (by rw [e]; simp)⟩
  rcases step_cases hs with ⟨c, rfl, hi⟩ | ⟨c, o, ho, rfl, hi⟩ | ⟨c, rfl, hi⟩ | ⟨c, q, ho, rfl⟩
  · -- through a place
    right
    obtain ⟨p, pe⟩ := u
    have c : pe = 0 := c
    subst c
    refine ⟨fun z => ?_, hi, .inl ⟨p, hvu.1, fun z => hlast (p, 1) (by simp) (by rw [z]), fun z => hhead (p, 0) List.mem_cons_self (by rw [z]), rfl⟩⟩
    rcases f.ok _ z with ⟨q, _, _, _, e2⟩ | ⟨q, r, h1, _, _, e2⟩
    · have : (1 : Nat) = 0 := congrArg (fun z => z.1.2) e2
      cases this
    · have e3 : p = q := congrArg (fun z => z.1.1) e2
      have e4 : p = r := congrArg (fun z => z.2.1) e2
      rw [← e3, ← e4] at h1
      exact nbr_irr h1
  · left
    exact hi
  · left
    obtain ⟨p, pe⟩ := u
    have hle := hvu.2
    have c : pe ≠ 0 := c
    have : pe = 1 := by
      have : pe ≤ 1 := hle
      omega
    subst this
    exact hi
  · -- along a tie
    right
    obtain ⟨p, pe⟩ := u
    have hle := hvu.2
    have c : pe ≠ 0 := c
    have : pe = 1 := by
      have : pe ≤ 1 := hle
      omega
    subst this
    have ho : q ∈ nbr n ts p := ho
    have hua : p ≠ a → (p, 1) ≠ ((a, 1) : Nd) := fun h z => h (congrArg Prod.fst z)
    have hpb : p ≠ b := fun z => by
      subst z
      obtain ⟨w, post', rfl, hw⟩ := hpost (hua fun z => hne z.symm)
      obtain ⟨r, re⟩ := w
      rcases step_cases hw with ⟨d, e2, _⟩ | ⟨d, o, _, e2, hi⟩ | ⟨d, e2, _⟩ | ⟨d, o, _, e2⟩
      · have d : re = 0 := d
        have e3 : p = r := congrArg Prod.fst e2
        exact hhead (r, re) (by simp) (by rw [d, ← e3])
      · have d : re = 0 := d
        have e3 : p = o := congrArg Prod.fst e2
        rw [d, ← e3] at hi
        exact f.noB r hi
      · have : (1 : Nat) = 0 := congrArg Prod.snd e2
        cases this
      · have : (1 : Nat) = 0 := congrArg Prod.snd e2
        cases this
    have hrev : ((q, 0), (p, 1)) ∉ F := fun z => by
      rcases f.ok _ z with ⟨r, _, _, _, e2⟩ | ⟨r, s, _, _, _, e2⟩
      · have e3 : q = r := congrArg (fun z => z.1.1) e2
        have e4 : p = r := congrArg (fun z => z.2.1) e2
        rw [e3, ← e4] at ho
        exact nbr_irr ho
      · have : (0 : Nat) = 1 := congrArg (fun z => z.1.2) e2
        cases this
    refine ⟨hrev, ?_⟩
    rcases List.eq_nil_or_concat pre with rfl | ⟨pre', x, rfl⟩
    · -- the end
      have hv : (q, 0) = ((b, 0) : Nd) := by
        have hh := h.hd
        rw [e] at hh
        simpa using hh
      have hqb : q = b := congrArg Prod.fst hv
      subst hqb
      have hpa : p ≠ a := fun z => hab (z ▸ ho)
      refine ⟨fun hin => ?_, .inr ⟨p, q, ho, hpb, fun z => hne z.symm, rfl⟩⟩
      have hin0 := f.outInner hpa hin
      obtain ⟨w, post', rfl, hw⟩ := hpost (hua hpa)
      obtain ⟨r, re⟩ := w
      rcases step_cases hw with ⟨d, e2, hi⟩ | ⟨d, o, _, e2, hi⟩ | ⟨d, e2, _⟩ | ⟨d, o, _, e2⟩
      · have e3 : p = r := congrArg Prod.fst e2
        have hi : inner r ∉ F := hi
        rw [← e3] at hi
        exact hi hin0
      · have d : re = 0 := d
        have e3 : p = o := congrArg Prod.fst e2
        rw [d, ← e3] at hi
        have e4 := f.oneOut hpa hin hi
        exact hhead (r, re) (by simp) (by rw [d, ← e4])
      · have : (1 : Nat) = 0 := congrArg Prod.snd e2
        cases this
      · have : (1 : Nat) = 0 := congrArg Prod.snd e2
        cases this
    · -- further on
      rw [List.concat_eq_append] at e hlast
      have e' : R = pre' ++ x :: (q, 0) :: (p, 1) :: post := by rw [e]; simp
      have hx := h.st pre' x (q, 0) ((p, 1) :: post) e'
      have hqb : q ≠ b := fun z => by
        have hh := h.hd
        have nd := h.nd
        rw [e'] at hh nd
        cases pre' with
        | nil =>
          have : x = (b, 0) := by simpa using hh
          exact (List.nodup_cons.mp nd).1 (by rw [this, z]; simp)
        | cons y pre' =>
          have : y = (b, 0) := by simpa using hh
          exact (List.nodup_cons.mp nd).1 (by rw [this, z]; simp)
      have hxl : x ≠ (a, 1) := hlast x (by simp)
      have hxu : x ≠ (p, 1) := fun z => by
        have nd := h.nd
        rw [e'] at nd
        have := (List.nodup_cons.mp (List.nodup_append.mp nd).2.1).1
        exact this (by rw [z]; simp)
      have hqa : q ≠ a := fun z => by
        subst z
        rcases step_cases hx with ⟨_, e2, _⟩ | ⟨_, o, _, e2, hi⟩ | ⟨d, _, _⟩ | ⟨d, _, _, _⟩
        · exact hxl e2
        · exact f.noA o hi
        · exact d rfl
        · exact d rfl
      refine ⟨fun hin => ?_, .inr ⟨p, q, ho, hpb, hqa, rfl⟩⟩
      have hin0 := f.intoInner hqb hin
      rcases step_cases hx with ⟨_, _, hi⟩ | ⟨_, o, _, e2, hi⟩ | ⟨d, _, _⟩ | ⟨d, _, _, _⟩
      · exact hi hin0
      · have e4 := f.oneIn hqb hin hi
        exact hxu (by rw [e2, ← e4])
      · exact d rfl
      · exact d rfl
theorem WayB.more {k : Nat} (f : Flw n ts a b F k) (hne : a ≠ b) (hab : b ∉ nbr n ts a) {R : List Nd} (h : WayB n ts a b F R) : Flw n ts a b (augR F R) (k + 1) := by
  obtain ⟨h1, h2, h3⟩ := augR_ok R F (b, 0) (a, 1) h.nd h.hd h.lst f.nd f.ok (h.res f hne hab)
  have hba : ((b, 0) : Nd) ≠ (a, 1) := fun z => by have : (0 : Nat) = 1 := congrArg Prod.snd z; cases this
  have key : ∀ G : List Ac, G.Nodup → (∀ e ∈ G, OkA n ts a b e) → inF G (a, 1) = 0 := fun G nd ok => by
    unfold inF
    rw [List.countP_eq_zero]
    intro e he hd
    have hd := of_decide_eq_true hd
    rcases ok e he with ⟨q, _, h2, _, rfl⟩ | ⟨q, r', _, _, _, rfl⟩
    · exact h2 (congrArg Prod.fst hd)
    · have : (0 : Nat) = 1 := congrArg Prod.snd hd
      cases this
  refine ⟨h1, h2, fun v h4 h5 => ?_, ?_⟩
  · have := h3 v
    rw [if_neg h5, if_neg h4] at this
    have := f.bal v h4 h5
    omega
  · have := h3 (a, 1)
    rw [if_neg (fun z => hba z.symm), if_pos rfl, key _ h1 h2, key _ f.nd f.ok, f.src] at this
    omega
end
end Dl

set_option Elab.async false
set_option linter.all false
set_option autoImplicit false
set_option maxRecDepth 100000
set_option maxHeartbeats 1000000
namespace Dl
open PySem L2
section
variable {n : Nat} {ts : List (Nat × Nat)} {a b k : Nat} {F : List Ac}
def nxtL (n : Nat) (ts : List (Nat × Nat)) (F : List Ac) (p : Nat) : List Nat := (nbr n ts p).filter fun o => decide (((p, 1), (o, 0)) ∈ F)
theorem nxt_mem {p q : Nat} (f : Flw n ts a b F k) : q ∈ nxtL n ts F p ↔ ((p, 1), (q, 0)) ∈ F := by
  unfold nxtL
  rw [List.mem_filter, decide_eq_true_eq]
  refine ⟨fun h => h.2, fun h => ⟨?_, h⟩⟩
  rcases f.ok _ h with ⟨r, _, _, _, e⟩ | ⟨r, s, h1, _, _, e⟩
  · have : (1 : Nat) = 0 := congrArg (fun z => z.1.2) e
    cases this
  · have e1 : p = r := congrArg (fun z => z.1.1) e
    have e2 : q = s := congrArg (fun z => z.2.1) e
    rw [e1, e2]
    exact h1
/-- the begin of a way along the flow -/
structure WayF (n : Nat) (ts : List (Nat × Nat)) (a b : Nat) (F : List Ac) (s : Nat) (w : List Nat) : Prop where
  hd : ∃ r, w = a :: s :: r
  nd : w.Nodup
  st : ∀ i x y, w[i]? = some x → w[i + 1]? = some y → ((x, 1), (y, 0)) ∈ F
theorem WayF.pos {s : Nat} {w : List Nat} (h : WayF n ts a b F s w) : 2 ≤ w.length := by
  obtain ⟨r, rfl⟩ := h.hd
  simp
theorem WayF.zero {s : Nat} {w : List Nat} (h : WayF n ts a b F s w) : w[0]? = some a ∧ w[1]? = some s := by
  obtain ⟨r, rfl⟩ := h.hd
  exact ⟨rfl, rfl⟩
theorem nd_ne : ∀ {xs : List Nat} (_ : xs.Nodup) {i j : Nat} (hi : i < xs.length) (hj : j < xs.length), i ≠ j → xs[i] ≠ xs[j]
  | x :: xs, h, 0, 0, _, _, hne, _ => hne rfl
  | x :: xs, h, 0, j + 1, _, hj, _, e => (List.nodup_cons.mp h).1 (by
    have e : x = xs[j]'(by simpa using hj) := e
    rw [e]
    exact List.getElem_mem _)
  | x :: xs, h, i + 1, 0, hi, _, _, e => (List.nodup_cons.mp h).1 (by
    have e : xs[i]'(by simpa using hi) = x := e
    rw [← e]
    exact List.getElem_mem _)
  | x :: xs, h, i + 1, j + 1, hi, hj, hne, e => nd_ne (List.nodup_cons.mp h).2 (by simpa using hi) (by simpa using hj) (fun c => hne (by rw [c])) e
theorem get_inj {w : List Nat} (nd : w.Nodup) {i j : Nat} {x : Nat} (h1 : w[i]? = some x) (h2 : w[j]? = some x) : i = j := by
  obtain ⟨hi, e1⟩ := List.getElem?_eq_some_iff.mp h1
  obtain ⟨hj, e2⟩ := List.getElem?_eq_some_iff.mp h2
  by_cases c : i = j
  · exact c
  · exact absurd (e1.trans e2.symm) (nd_ne nd hi hj c)
/-- at a place that is not the end there is just one place to go on -/
theorem WayF.next (f : Flw n ts a b F k) {s : Nat} {w : List Nat} (h : WayF n ts a b F s w) {p : Nat} (hp : w.getLast? = some p) (hpb : p ≠ b) : ∃ q, nxtL n ts F p = [q] ∧ WayF n ts a b F s (w ++ [q]) := by
  have hpos := h.pos
  rw [List.getLast?_eq_getElem?] at hp
  have hpa : p ≠ a := fun e => by
    subst e
    have := get_inj h.nd hp h.zero.1
    omega
  -- the arc into p
  obtain ⟨r, hr⟩ : ∃ r, w[w.length - 2]? = some r := ⟨_, List.getElem?_eq_getElem (by omega)⟩
  have hin := h.st (w.length - 2) r p hr (by rw [show w.length - 2 + 1 = w.length - 1 by omega]; exact hp)
  obtain ⟨q, hq, hqF⟩ := f.innerNext (f.intoInner hpb hin)
  have one : nxtL n ts F p = [q] := by
    have nd : (nxtL n ts F p).Nodup := asc_nodup (asc_filter _ (nbr_asc n ts p))
    have hm : ∀ x, x ∈ nxtL n ts F p ↔ x ∈ [q] := fun x => by
      rw [nxt_mem f, List.mem_singleton]
      exact ⟨fun z => f.oneOut hpa z hqF, fun z => z ▸ hqF⟩
    exact List.perm_singleton.mp ((List.perm_ext_iff_of_nodup nd (by simp)).mpr hm)
  refine ⟨q, one, ?_, ?_, ?_⟩
  · obtain ⟨t, ht⟩ := h.hd
    exact ⟨t ++ [q], by rw [ht]; rfl⟩
  · refine List.nodup_append.mpr ⟨h.nd, by simp, fun x hx y hy e => ?_⟩
    rw [List.mem_singleton.mp hy] at e
    subst e
    obtain ⟨i, hi, e⟩ := List.getElem_of_mem hx
    have hi2 : w[i]? = some x := by rw [List.getElem?_eq_getElem hi, e]
    rcases Nat.eq_zero_or_pos i with rfl | h0
    · have : x = a := Option.some.inj (hi2.symm.trans h.zero.1)
      exact f.noA p (this ▸ hqF)
    · obtain ⟨z, hz⟩ : ∃ z, w[i - 1]? = some z := ⟨_, List.getElem?_eq_getElem (by omega)⟩
      have h2 := h.st (i - 1) z x hz (by rw [show i - 1 + 1 = i by omega]; exact hi2)
      by_cases c : x = b
      · by_cases d : i = w.length - 1
        · subst d
          exact hpb ((Option.some.inj (hp.symm.trans hi2)).trans c)
        · obtain ⟨y', hy'⟩ : ∃ y', w[i + 1]? = some y' := ⟨_, List.getElem?_eq_getElem (by omega)⟩
          have := h.st i x y' hi2 hy'
          rw [c] at this
          exact f.noB y' this
      · have := f.oneIn c h2 hqF
        subst this
        have := get_inj h.nd hz hp
        omega
  · intro i x y h1 h2
    by_cases c : i + 1 < w.length
    · rw [List.getElem?_append_left (by omega)] at h1
      rw [List.getElem?_append_left c] at h2
      exact h.st i x y h1 h2
    · by_cases d : i + 1 = w.length
      · rw [List.getElem?_append_left (by omega)] at h1
        rw [List.getElem?_append_right (by omega), show i + 1 - w.length = 0 by omega] at h2
        have e2 : q = y := by simpa using h2
        have e1 : p = x := Option.some.inj (hp.symm.trans (by rw [show w.length - 1 = i by omega]; exact h1))
        rw [← e1, ← e2]
        exact hqF
      · rw [List.getElem?_append_right (by omega)] at h2
        rw [List.getElem?_eq_none (by simp; omega)] at h2
        cases h2
end
end Dl

set_option Elab.async false
set_option linter.all false
set_option autoImplicit false
set_option maxRecDepth 100000
set_option maxHeartbeats 1000000
namespace Dl
open PySem L2
section
variable {n : Nat} {ts : List (Nat × Nat)} {a b k : Nat} {F : List Ac}
end
end Dl

set_option Elab.async false
set_option linter.all false
set_option autoImplicit false
set_option maxRecDepth 100000
set_option maxHeartbeats 1000000
namespace Dl
open PySem L2
section
variable {n : Nat} {ts : List (Nat × Nat)} {a b k : Nat} {F : List Ac}
end
end Dl

set_option Elab.async false
set_option linter.all false
set_option autoImplicit false
set_option maxRecDepth 100000
set_option maxHeartbeats 1000000
namespace Dl
open PySem L2
def All2N (P : Nat → List Nat → Prop) : List Nat → List (List Nat) → Prop
  | [], [] => True
  | s :: ss, w :: ws => P s w ∧ All2N P ss ws
  | _, _ => False
theorem All2N.len {P : Nat → List Nat → Prop} : ∀ {ss : List Nat} {ws : List (List Nat)}, All2N P ss ws → ws.length = ss.length
  | [], [], _ => rfl
  | [], _ :: _, h => h.elim
  | _ :: _, [], h => h.elim
  | _ :: ss, _ :: ws, h => by
    rw [List.length_cons, List.length_cons, All2N.len h.2]
theorem All2N.mem {P : Nat → List Nat → Prop} : ∀ {ss : List Nat} {ws : List (List Nat)}, All2N P ss ws → ∀ w ∈ ws, ∃ s ∈ ss, P s w
  | [], [], _, w, hw => nomatch hw
  | [], _ :: _, h, _, _ => h.elim
  | _ :: _, [], h, _, _ => h.elim
  | s :: ss, w :: ws, h, x, hx => by
    rcases List.mem_cons.mp hx with rfl | hx
    · exact ⟨s, List.mem_cons_self, h.1⟩
    · obtain ⟨t, ht, hp⟩ := All2N.mem h.2 x hx
      exact ⟨t, List.mem_cons_of_mem _ ht, hp⟩
section
variable {n : Nat} {ts : List (Nat × Nat)} {a b k : Nat} {F : List Ac}
end
end Dl

set_option Elab.async false
set_option linter.all false
set_option autoImplicit false
set_option maxRecDepth 100000
set_option maxHeartbeats 1000000
namespace Dl
open PySem L2
section
variable {n : Nat} {ts : List (Nat × Nat)} {a b k : Nat} {F : List Ac}
theorem loose_mem {p : Nat × Nat} : p ∈ looseP n ts ↔ p.1 < p.2 ∧ p.2 < n ∧ p.2 ∉ nbr n ts p.1 := by
  unfold looseP freeP
  rw [List.mem_flatMap]
  constructor
  · rintro ⟨x, hx, h⟩
    obtain ⟨y, hy, rfl⟩ := List.mem_map.mp h
    obtain ⟨h1, h2⟩ := List.mem_filter.mp hy
    rw [Bool.and_eq_true, decide_eq_true_eq, Bool.not_eq_true'] at h2
    refine ⟨h2.1, List.mem_range.mp h1, fun hm => ?_⟩
    unfold nbr at hm
    have h3 := (List.mem_filter.mp hm).2
    rw [Bool.and_eq_true] at h3
    have h4 : adj ts x y = true := h3.2
    rw [h2.2] at h4
    cases h4
  · rintro ⟨h1, h2, h3⟩
    refine ⟨p.1, List.mem_range.mpr (by omega), List.mem_map.mpr ⟨p.2, List.mem_filter.mpr ⟨List.mem_range.mpr h2, ?_⟩, rfl⟩⟩
    rw [Bool.and_eq_true, decide_eq_true_eq, Bool.not_eq_true']
    refine ⟨h1, ?_⟩
    cases h4 : adj ts p.1 p.2
    · rfl
    · exfalso
      refine h3 (List.mem_filter.mpr ⟨List.mem_range.mpr h2, ?_⟩)
      rw [Bool.and_eq_true, decide_eq_true_eq]
      exact ⟨by omega, h4⟩
end
end Dl

set_option Elab.async false
set_option linter.all false
set_option autoImplicit false
set_option maxRecDepth 100000
set_option maxHeartbeats 1000000
namespace Dl
open PySem L2
section
variable {n : Nat} {ts : List (Nat × Nat)} {a b k : Nat} {F : List Ac}
structure CutL (n : Nat) (ts : List (Nat × Nat)) (L : List Nat) : Prop where
  asc : Asc L
  lt : ∀ x ∈ L, x < n
  sep : ∃ a b, a < n ∧ b < n ∧ a ∉ L ∧ b ∉ L ∧ ¬ Rch n ts (restL n L) a b
end
end Dl

set_option Elab.async false
set_option linter.all false
set_option autoImplicit false
set_option maxRecDepth 100000
set_option maxHeartbeats 1000000
namespace Dl
open PySem L2
end Dl
namespace Dl
open PySem L2 PySem.Spec PyProof.Rows
section
variable {prog : Program} {w : World} {A : Around} {R : Result → Shared → Prop}
end
section
variable {prog : Program} {w : World} {A : Around} {E : Value → Shared → Prop} {s : Shared}
end
section
variable {X : Cx}
end
section
end
end Dl

set_option Elab.async false
set_option linter.all false
set_option autoImplicit false
set_option maxRecDepth 100000
set_option maxHeartbeats 1000000
namespace Dl
open PySem L2
section
variable {n : Nat} {ts : List (Nat × Nat)} {a b k : Nat}
end
end Dl

set_option Elab.async false
set_option linter.all false
set_option autoImplicit false
set_option maxRecDepth 100000
set_option maxHeartbeats 1000000
namespace Dl
open PySem L2
end Dl
namespace Dl
open PySem L2 PySem.Spec PyProof.Rows
section
end
end Dl

set_option Elab.async false
set_option linter.all false
set_option autoImplicit false
set_option maxRecDepth 100000
set_option maxHeartbeats 1000000
namespace Dl
open PySem L2
section
variable {n : Nat} {ts : List (Nat × Nat)}
structure BarP (n : Nat) (ts : List (Nat × Nat)) (k : Nat) (xs ys : List Nat) : Prop where
  deal : Deal n xs ys
  len : xs.length = k
  ones : ys.take (k - 1) = List.replicate (k - 1) 1
  apart : ¬ Hangs n ts (restL n (xs.take (k - 1)))
theorem rest_asc (xs : List Nat) : Asc (restL n xs) := asc_filter _ (asc_range n)
theorem fold_max (ks : List Nat) : ∀ a : Nat, (∀ x ∈ ks, x ≤ ks.foldl max a) ∧ a ≤ ks.foldl max a ∧ (ks.foldl max a = a ∨ ks.foldl max a ∈ ks) := by
  induction ks with
  | nil => exact fun a => ⟨fun x hx => (by cases hx), Nat.le_refl _, Or.inl rfl⟩
  | cons k ks ih =>
    intro a
    obtain ⟨i1, i2, i3⟩ := ih (max a k)
    rw [List.foldl_cons]
    refine ⟨fun x hx => ?_, by omega, ?_⟩
    · rcases List.mem_cons.mp hx with rfl | hx
      · omega
      · exact i1 x hx
    · rcases i3 with h | h
      · rw [h]
        by_cases c : a ≤ k
        · exact .inr (by rw [Nat.max_eq_right c]; exact List.mem_cons_self)
        · exact .inl (by omega)
      · exact .inr (List.mem_cons_of_mem _ h)
end
end Dl

set_option Elab.async false
set_option linter.all false
set_option autoImplicit false
set_option maxRecDepth 100000
set_option maxHeartbeats 1000000
namespace Dl
open PySem L2
inductive TreeV (n : Nat) (ts : List (Nat × Nat)) (rs ss : List Nat) : List Int → D → Prop
  | full {zs : List Int} {i : Nat} : i < rs.length → fullB ss zs i = true → TreeV n ts rs ss zs (.tuple [.str "full", .int (i : Nat)])
  | short {zs : List Int} {i : Nat} : i < rs.length → shortB n ts rs ss zs i = true → TreeV n ts rs ss zs (.tuple [.str "short", .int (i : Nat)])
  | lost {zs : List Int} {p : Nat} : p ∈ plc (isI (-1)) zs → lostB n ts rs ss zs p = true → TreeV n ts rs ss zs (.tuple [.str "lost", .int (p : Nat)])
  | cases {zs : List Int} {p : Nat} {pages : List D} : p ∈ plc (isI (-1)) zs → pages.length = rs.length → (∀ (i : Nat) (t : D), pages[i]? = some t → TreeV n ts rs ss (putL zs p (i : Int)) t) → TreeV n ts rs ss zs (.tuple [.str "cases", .int (p : Nat), .tuple pages])
section
variable {n : Nat} {ts ts2 : List (Nat × Nat)} {rs ss : List Nat} {zs : List Int}
theorem room_less (h : ∀ p ∈ ts2, p ∈ ts) {i : Nat} (hr : rs.getD i 0 < n) : ∀ x ∈ roomL n ts2 rs zs i, x ∈ roomL n ts rs zs i := fun x hx => by
  unfold roomL at *
  exact (piece_mem hr).mpr (((piece_mem hr).mp hx).sub h)
theorem short_less (h : ∀ p ∈ ts2, p ∈ ts) {i : Nat} (hr : rs.getD i 0 < n) (hs : shortB n ts rs ss zs i = true) : shortB n ts2 rs ss zs i = true := by
  have sub := room_less (rs := rs) (zs := zs) h hr
  unfold shortB at *
  rw [Bool.or_eq_true] at *
  rcases hs with hs | hs
  · left
    have := of_decide_eq_true hs
    have := nodup_le (xs := roomL n ts2 rs zs i) (asc_nodup (piece_asc _ _ _ _)) sub
    exact decide_eq_true (by omega)
  · right
    obtain ⟨p, hp, hs⟩ := List.any_eq_true.mp hs
    refine List.any_eq_true.mpr ⟨p, hp, ?_⟩
    rw [Bool.not_eq_true', decide_eq_false_iff_not] at *
    exact fun hm => hs (sub p hm)
theorem lost_less (h : ∀ p ∈ ts2, p ∈ ts) (hr : ∀ r ∈ rs, r < n) {p : Nat} (hs : lostB n ts rs ss zs p = true) : lostB n ts2 rs ss zs p = true := by
  unfold lostB at *
  rw [Bool.not_eq_true', List.any_eq_false] at *
  intro i hi hm
  have hil := List.mem_range.mp (List.mem_filter.mp hi).1
  refine hs i hi ?_
  rw [decide_eq_true_eq] at *
  exact room_less h (getD_lt hr hil) p hm
theorem TreeV.less (h : ∀ p ∈ ts2, p ∈ ts) (hr : ∀ r ∈ rs, r < n) {zs : List Int} {t : D} (T : TreeV n ts rs ss zs t) : TreeV n ts2 rs ss zs t := by
  induction T with
  | full hi hf => exact .full hi hf
  | short hi hs => exact .short hi (short_less h (getD_lt hr hi) hs)
  | lost hp hl => exact .lost hp (lost_less h hr hl)
  | cases hp hl _ ih => exact .cases hp hl ih
end
end Dl

set_option Elab.async false
set_option linter.all false
set_option autoImplicit false
set_option maxRecDepth 100000
set_option maxHeartbeats 1000000
namespace Dl
open PySem L2
section
variable {n : Nat} {ts : List (Nat × Nat)} {a b : Nat}
end
end Dl

set_option Elab.async false
set_option linter.all false
set_option autoImplicit false
set_option maxRecDepth 100000
set_option maxHeartbeats 1000000
namespace Dl
open PySem L2
section
variable {n : Nat} {ts ts2 : List (Nat × Nat)} {rs ss : List Nat} {a b : Nat}
theorem nbr_is {x y : Nat} : y ∈ nbr n ts x ↔ y < n ∧ y ≠ x ∧ (min x y, max x y) ∈ ts := by
  unfold nbr adj
  rw [List.mem_filter, List.mem_range, Bool.and_eq_true, decide_eq_true_eq, decide_eq_true_eq]
theorem nbr_tie {x y : Nat} (h : y ∈ nbr n (tieP ts a b) x) : y ∈ nbr n ts x ∨ (x = a ∧ y = b) ∨ (x = b ∧ y = a) := by
  obtain ⟨h1, h2, h3⟩ := nbr_is.mp h
  unfold tieP at h3
  rcases List.mem_append.mp ((ordP_mem _).mp h3) with h3 | h3
  · exact .inl (nbr_is.mpr ⟨h1, h2, h3⟩)
  · have h3 := List.mem_singleton.mp h3
    have e1 : min x y = min a b := congrArg Prod.fst h3
    have e2 : max x y = max a b := congrArg Prod.snd h3
    right
    by_cases c : x = a
    · exact .inl ⟨c, by omega⟩
    · exact .inr ⟨by omega, by omega⟩
theorem tie_nbr (ha : a < n) (hb : b < n) (hab : a ≠ b) : b ∈ nbr n (tieP ts a b) a ∧ a ∈ nbr n (tieP ts a b) b := by
  have h : (min a b, max a b) ∈ tieP ts a b := by
    unfold tieP
    exact (ordP_mem _).mpr (List.mem_append_right _ List.mem_cons_self)
  refine ⟨nbr_is.mpr ⟨hb, fun e => hab e.symm, h⟩, nbr_is.mpr ⟨ha, hab, ?_⟩⟩
  rw [Nat.min_comm, Nat.max_comm]
  exact h
theorem CutL.less (h : ∀ p ∈ ts, p ∈ ts2) {X : List Nat} (c : CutL n ts2 X) : CutL n ts X := by
  obtain ⟨h1, h2, u, v, hu, hv, hux, hvx, hs⟩ := c
  exact ⟨h1, h2, u, v, hu, hv, hux, hvx, fun r => hs (r.sub h)⟩
/-- the tie is not used where one of its ends is away -/
theorem rch_tie {lot : List Nat} (hl : ∀ x ∈ lot, x ≠ a) {p q : Nat} (hp : p ≠ a) (r : Rch n (tieP ts a b) lot p q) : Rch n ts lot p q ∧ q ≠ a := by
  induction r with
  | base => exact ⟨.base, hp⟩
  | @step x y hx h1 h2 ih =>
    refine ⟨.step ih.1 ?_ h2, hl _ h2⟩
    rcases nbr_tie h1 with h | ⟨e, _⟩ | ⟨_, e⟩
    · exact h
    · exact absurd e ih.2
    · exact absurd e (hl _ h2)
theorem tie_comm : tieP ts a b = tieP ts b a := by
  unfold tieP
  rw [Nat.min_comm, Nat.max_comm]
theorem rch_tie2 {lot : List Nat} (hl : ∀ x ∈ lot, x ≠ b) {p q : Nat} (hp : p ≠ b) (r : Rch n (tieP ts a b) lot p q) : Rch n ts lot p q := by
  rw [tie_comm] at r
  exact (rch_tie hl hp r).1
theorem Ord.more (h : ∀ p ∈ ts, p ∈ ts2) {xs : List Nat} (O : Ord n ts a b xs) : Ord n ts2 a b xs where
  nd := O.nd
  lt := O.lt
  hd := O.hd
  lst := O.lst
  two := O.two
  btw := fun pre x post e h1 h2 => by
    obtain ⟨⟨y, p1, p2⟩, z, q1, q2⟩ := O.btw pre x post e h1 h2
    exact ⟨⟨y, p1, nbr_sub h p2⟩, z, q1, nbr_sub h q2⟩
theorem Loose.less (h : ∀ p ∈ ts, p ∈ ts2) {p : Nat} {L : List Nat} (l : Loose n ts2 a b p L) : Loose n ts a b p L where
  ne := l.ne
  asc := l.asc
  lt := l.lt
  na := l.na
  nb := l.nb
  np := l.np
  pl := l.pl
  out := fun x hx => by
    obtain ⟨h1, h2, y, hy, h3⟩ := out_mem.mp hx
    exact l.out x (out_mem.mpr ⟨h1, h2, y, nbr_sub h hy, h3⟩)
theorem BarP.less (h : ∀ p ∈ ts, p ∈ ts2) {k : Nat} {xs ys : List Nat} (B : BarP n ts2 k xs ys) : BarP n ts k xs ys := ⟨B.deal, B.len, B.ones, fun hh => B.apart (hh.sub h)⟩
end
end Dl

set_option Elab.async false
set_option linter.all false
set_option autoImplicit false
set_option maxRecDepth 100000
set_option maxHeartbeats 1000000
namespace Dl
open PySem L2
section
variable {α S : Type} {X : Cx} {R : Res} {rk : RK α} {ρ : List Cell} {st : Stmt} {rest body A B' : List Stmt} {κ : KtE α} {e tg iter : Expr} {pos : Pos}
variable {a b c' : Expr}
end
end Dl
namespace Dl
open PySem L2 PySem.Spec PyProof.Rows
open PySem.W (AlikeAll maxD max_list_data max_tuple_data alike)
end Dl

set_option Elab.async false
set_option linter.all false
set_option autoImplicit false
set_option maxRecDepth 100000
set_option maxHeartbeats 1000000
namespace Dl
open PySem L2
namespace Bt
def row (C x : Nat) : Nat := Nat.land (Nat.shiftRight C (Nat.mul 6 x)) 63
def pw (x : Nat) : Nat := Nat.sub (Nat.shiftLeft 1 x) 1
def isRep (C x : Nat) : Bool := cond (Nat.beq (row C x) 0) false (Nat.beq (Nat.land (row C x) (pw x)) 0)
def one (b : Bool) : Nat := cond b 1 0
def cnt (C : Nat) : Nat := Nat.add (one (isRep C 0)) (Nat.add (one (isRep C 1)) (Nat.add (one (isRep C 2)) (Nat.add (one (isRep C 3)) (Nat.add (one (isRep C 4)) (one (isRep C 5))))))
def spread (U : Nat) : Nat := Nat.add (Nat.land U 1) (Nat.add (Nat.mul (Nat.land U 2) 32) (Nat.add (Nat.mul (Nat.land U 4) 1024) (Nat.add (Nat.mul (Nat.land U 8) 32768) (Nat.add (Nat.mul (Nat.land U 16) 1048576) (Nat.mul (Nat.land U 32) 33554432)))))
def upd (C a b : Nat) : Nat := cond (Nat.beq (row C a) 0) C (cond (Nat.beq (row C b) 0) C (Nat.lor C (Nat.mul (spread (Nat.lor (row C a) (row C b))) (Nat.lor (row C a) (row C b)))))
structure BSt where
  c : Nat
  c0 : Nat
  c1 : Nat
  c2 : Nat
  c3 : Nat
  c4 : Nat
  c5 : Nat
def updS (s : BSt) (a b : Nat) : BSt := ⟨upd s.c a b, upd s.c0 a b, upd s.c1 a b, upd s.c2 a b, upd s.c3 a b, upd s.c4 a b, upd s.c5 a b⟩
def bitIf (b : Bool) (m : Nat) : Nat := cond b m 0
def behind (k : Nat) (s : BSt) : Nat := Nat.add (bitIf (Nat.blt k (cnt s.c0)) 1) (Nat.add (bitIf (Nat.blt k (cnt s.c1)) 2) (Nat.add (bitIf (Nat.blt k (cnt s.c2)) 4) (Nat.add (bitIf (Nat.blt k (cnt s.c3)) 8) (Nat.add (bitIf (Nat.blt k (cnt s.c4)) 16) (bitIf (Nat.blt k (cnt s.c5)) 32)))))
def freeRep (C B x : Nat) : Nat := cond (isRep C x) (cond (Nat.beq (Nat.land (row C x) B) 0) 1 0) 0
def frees (C B : Nat) : Nat := Nat.add (freeRep C B 0) (Nat.add (freeRep C B 1) (Nat.add (freeRep C B 2) (Nat.add (freeRep C B 3) (Nat.add (freeRep C B 4) (freeRep C B 5)))))
def lotRep (C B P x : Nat) : Nat := cond (Nat.beq (Nat.land (Nat.shiftRight P x) 1) 1) (freeRep C B x) 0
def lots (C B P v : Nat) : Nat := cond (Nat.beq (Nat.land (Nat.shiftRight B v) 1) 1) (Nat.add (lotRep C B P 0) (Nat.add (lotRep C B P 1) (Nat.add (lotRep C B P 2) (Nat.add (lotRep C B P 3) (Nat.add (lotRep C B P 4) (lotRep C B P 5)))))) 0
def wants (s : BSt) (B : Nat) : Nat := Nat.add (Nat.mul 2 (frees s.c B)) (Nat.add (lots s.c0 B (row s.c 0) 0) (Nat.add (lots s.c1 B (row s.c 1) 1) (Nat.add (lots s.c2 B (row s.c 2) 2) (Nat.add (lots s.c3 B (row s.c 3) 3) (Nat.add (lots s.c4 B (row s.c 4) 4) (lots s.c5 B (row s.c 5) 5))))))
def mx (a b : Nat) : Nat := cond (Nat.ble a b) b a
def most (s : BSt) : Nat := mx (cnt s.c0) (mx (cnt s.c1) (mx (cnt s.c2) (mx (cnt s.c3) (mx (cnt s.c4) (cnt s.c5)))))
def gb (s : BSt) : Nat := mx (Nat.sub (most s) 1) (Nat.div (Nat.succ (wants s (behind (cnt s.c) s))) 2)
end Bt
open Bt
end Dl

set_option Elab.async false
set_option linter.all false
set_option autoImplicit false
set_option maxRecDepth 100000
set_option maxHeartbeats 1000000
namespace Dl
open PySem L2
open Bt
theorem row_bit (C x y : Nat) : (row C x).testBit y = (decide (y < 6) && C.testBit (6 * x + y)) := by
  show (Nat.testBit ((C >>> (6 * x)) &&& 63) y) = _
  rw [Nat.testBit_and, Nat.testBit_shiftRight, show (63 : Nat) = 2 ^ 6 - 1 from rfl, Nat.testBit_two_pow_sub_one, Bool.and_comm]
theorem row_lt (C x : Nat) : row C x < 64 := Nat.lt_of_le_of_lt (show ((C >>> (6 * x)) &&& 63) ≤ 63 from Nat.and_le_right) (by decide)
theorem row_zero {C x : Nat} : row C x = 0 ↔ ∀ y, y < 6 → C.testBit (6 * x + y) = false := by
  constructor
  · intro h y hy
    have := row_bit C x y
    rw [h, Nat.zero_testBit, decide_eq_true hy, Bool.true_and] at this
    exact this.symm
  · intro h
    refine Nat.eq_of_testBit_eq fun y => ?_
    rw [row_bit, Nat.zero_testBit]
    by_cases c : y < 6
    · rw [h y c, Bool.and_false]
    · rw [decide_eq_false c, Bool.false_and]
theorem spread_bit : ∀ U, U < 64 → ∀ x, x < 6 → ∀ y, y < 6 → (spread U * U).testBit (6 * x + y) = (U.testBit x && U.testBit y) := by decide +kernel
theorem beq_is (a b : Nat) : Nat.beq a b = true ↔ a = b := ⟨Nat.eq_of_beq_eq_true, fun h => by rw [h]; exact Nat.beq_refl b⟩
theorem beq_row (C x : Nat) : Nat.beq (row C x) 0 = decide (row C x = 0) := by
  rw [Bool.eq_iff_iff, decide_eq_true_eq, beq_is]
theorem upd_bit {C a b x y : Nat} (ha : row C a ≠ 0) (hb : row C b ≠ 0) (ha6 : a < 6) (hb6 : b < 6) (hx : x < 6) (hy : y < 6) : (Bt.upd C a b).testBit (6 * x + y) = (C.testBit (6 * x + y) || ((C.testBit (6 * a + x) || C.testBit (6 * b + x)) && (C.testBit (6 * a + y) || C.testBit (6 * b + y)))) := by
  unfold Bt.upd
  rw [beq_row, beq_row, decide_eq_false ha, decide_eq_false hb]
  show (C ||| (spread (row C a ||| row C b) * (row C a ||| row C b))).testBit (6 * x + y) = _
  rw [Nat.testBit_or, spread_bit _ (Nat.or_lt_two_pow (n := 6) (row_lt C a) (row_lt C b)) x hx y hy, Nat.testBit_or, Nat.testBit_or, row_bit, row_bit, row_bit, row_bit, decide_eq_true hx, decide_eq_true hy]
  simp
theorem upd_same {C a b : Nat} (h : row C a = 0 ∨ row C b = 0) : Bt.upd C a b = C := by
  unfold Bt.upd
  rw [beq_row, beq_row]
  by_cases ha : row C a = 0
  · rw [decide_eq_true ha]; rfl
  · rw [decide_eq_false ha, decide_eq_true (h.resolve_left ha)]; rfl
section
variable {n : Nat} {ts ts2 : List (Nat × Nat)} {a b : Nat}
/-- bits that tell what is reached among the other places -/
def BInv (n : Nat) (ts : List (Nat × Nat)) (X : List Nat) (C : Nat) : Prop := ∀ x y, x < 6 → y < 6 → (C.testBit (6 * x + y) = true ↔ x ∈ restL n X ∧ Rch n ts (restL n X) x y)
theorem BInv.same {X : List Nat} {C : Nat} (h : BInv n ts X C) (e : ∀ p, p ∈ ts ↔ p ∈ ts2) : BInv n ts2 X C := fun x y hx hy => by
  rw [h x y hx hy]
  exact ⟨fun ⟨h1, r⟩ => ⟨h1, r.sub fun p hp => (e p).mp hp⟩, fun ⟨h1, r⟩ => ⟨h1, r.sub fun p hp => (e p).mpr hp⟩⟩
theorem BInv.away {X : List Nat} {C : Nat} (h : BInv n ts X C) {x : Nat} (hx : x < 6) : row C x = 0 ↔ x ∉ restL n X := by
  rw [row_zero]
  constructor
  · intro hz hm
    have := (h x x hx hx).mpr ⟨hm, .base⟩
    rw [hz x hx] at this
    cases this
  · intro hn y hy
    rw [← Bool.not_eq_true, h x y hx hy]
    exact fun hh => hn hh.1
theorem rch_in {lot : List Nat} {x y : Nat} (hx : x ∈ lot) (r : Rch n ts lot x y) : y ∈ lot := (List.mem_cons.mp r.mem).elim (fun e => e ▸ hx) id
theorem BInv.tie (W : Wb n ts) (ha : a < n) (hb : b < n) (hab : a ≠ b) (hn : n ≤ 6) {X : List Nat} {C : Nat} (h : BInv n ts X C) : BInv n (tieP ts a b) X (Bt.upd C a b) := by
  have W2 := tieP_web W ha hb hab
  by_cases c : row C a = 0 ∨ row C b = 0
  · rw [upd_same c]
    intro x y hx hy
    rw [h x y hx hy]
    refine ⟨fun ⟨h1, r⟩ => ⟨h1, r.sub tieP_sub⟩, fun ⟨h1, r⟩ => ⟨h1, ?_⟩⟩
    rcases c with c | c
    · have hna := (h.away (by omega)).mp c
      exact (rch_tie (fun z hz e => hna (by rw [← e]; exact hz)) (fun e => hna (by rw [← e]; exact h1)) r).1
    · have hnb := (h.away (by omega)).mp c
      exact rch_tie2 (fun z hz e => hnb (by rw [← e]; exact hz)) (fun e => hnb (by rw [← e]; exact h1)) r
  · have ca : row C a ≠ 0 := fun e => c (.inl e)
    have cb : row C b ≠ 0 := fun e => c (.inr e)
    have hal : a ∈ restL n X := Classical.byContradiction fun hm => ca ((h.away (by omega)).mpr hm)
    have hbl : b ∈ restL n X := Classical.byContradiction fun hm => cb ((h.away (by omega)).mpr hm)
    intro x y hx hy
    rw [upd_bit ca cb (by omega) (by omega) hx hy, Bool.or_eq_true, Bool.and_eq_true, Bool.or_eq_true, Bool.or_eq_true, h x y hx hy, h a x (by omega) hx, h b x (by omega) hx, h a y (by omega) hy, h b y (by omega) hy]
    obtain ⟨n1, n2⟩ := tie_nbr (ts := ts) ha hb hab
    have toA : ∀ {z : Nat}, (a ∈ restL n X ∧ Rch n ts (restL n X) a z) ∨ (b ∈ restL n X ∧ Rch n ts (restL n X) b z) → Rch n (tieP ts a b) (restL n X) a z := fun {z} hz => by
      rcases hz with ⟨_, r⟩ | ⟨_, r⟩
      · exact r.sub tieP_sub
      · exact (Rch.step .base n1 hbl).trans (r.sub tieP_sub)
    constructor
    · rintro (⟨h1, r⟩ | ⟨hx2, hy2⟩)
      · exact ⟨h1, r.sub tieP_sub⟩
      · have hxl : x ∈ restL n X := by
          rcases hx2 with ⟨_, r⟩ | ⟨_, r⟩
          · exact rch_in hal r
          · exact rch_in hbl r
        exact ⟨hxl, ((toA hx2).symm W2 hal).trans (toA hy2)⟩
    · rintro ⟨h1, r⟩
      clear hy
      induction r with
      | base => exact .inl ⟨h1, .base⟩
      | @step u v hu hs hv ih =>
        rcases nbr_tie hs with hs | ⟨rfl, rfl⟩ | ⟨rfl, rfl⟩
        · rcases ih with ⟨_, r⟩ | ⟨hx2, hy2⟩
          · exact .inl ⟨h1, .step r hs hv⟩
          · refine .inr ⟨hx2, ?_⟩
            rcases hy2 with ⟨p, r⟩ | ⟨p, r⟩
            · exact .inl ⟨p, .step r hs hv⟩
            · exact .inr ⟨p, .step r hs hv⟩
        · refine .inr ⟨?_, .inr ⟨hbl, .base⟩⟩
          rcases ih with ⟨_, r⟩ | ⟨hx2, _⟩
          · exact .inl ⟨hal, r.symm W h1⟩
          · exact hx2
        · refine .inr ⟨?_, .inl ⟨hal, .base⟩⟩
          rcases ih with ⟨_, r⟩ | ⟨hx2, _⟩
          · exact .inr ⟨hbl, r.symm W h1⟩
          · exact hx2
open Classical in
noncomputable def repsL (n : Nat) (ts : List (Nat × Nat)) (lot : List Nat) : List Nat := lot.filter fun x => decide (∀ y ∈ lot, y < x → ¬ Rch n ts lot x y)
theorem reps_mem {lot : List Nat} {x : Nat} : x ∈ repsL n ts lot ↔ x ∈ lot ∧ ∀ y ∈ lot, y < x → ¬ Rch n ts lot x y := by
  classical
  unfold repsL
  rw [List.mem_filter, decide_eq_true_eq]
theorem least_of {P : Nat → Prop} {x : Nat} (h : P x) : ∃ y, P y ∧ y ≤ x ∧ ∀ z, z < y → ¬ P z := by
  induction x using Nat.strongRecOn with
  | ind x ih =>
    by_cases c : ∃ z, z < x ∧ P z
    · obtain ⟨z, hz, pz⟩ := c
      obtain ⟨y, h1, h2, h3⟩ := ih z hz pz
      exact ⟨y, h1, by omega, h3⟩
    · exact ⟨x, h, Nat.le_refl _, fun z hz pz => c ⟨z, hz, pz⟩⟩
theorem rep_of (W : Wb n ts) {lot : List Nat} {x : Nat} (hx : x ∈ lot) : ∃ y ∈ repsL n ts lot, Rch n ts lot x y := by
  obtain ⟨y, h1, _, h3⟩ := least_of (P := fun y => Rch n ts lot x y) (x := x) .base
  have hy := rch_in hx h1
  exact ⟨y, reps_mem.mpr ⟨hy, fun z hz hlt r => h3 z hlt (h1.trans r)⟩, h1⟩
theorem reps_one (W : Wb n ts) {lot : List Nat} {x y : Nat} (hx : x ∈ repsL n ts lot) (hy : y ∈ repsL n ts lot) (r : Rch n ts lot x y) : x = y := by
  obtain ⟨x1, x2⟩ := reps_mem.mp hx
  obtain ⟨y1, y2⟩ := reps_mem.mp hy
  rcases Nat.lt_trichotomy x y with c | c | c
  · exact absurd (r.symm W x1) (y2 x x1 c)
  · exact c
  · exact absurd r (x2 y y1 c)
theorem piece_eq (W : Wb n ts) {lot : List Nat} (hl : ∀ x ∈ lot, x < n) {x y : Nat} (hx : x ∈ lot) (hy : y ∈ lot) : piece n ts lot x = piece n ts lot y ↔ Rch n ts lot x y := by
  constructor
  · intro e
    have : y ∈ piece n ts lot x := by rw [e]; exact piece_self (hl y hy)
    exact (piece_mem (hl x hx)).mp this
  · intro r
    refine asc_one (piece_asc _ _ _ _) (piece_asc _ _ _ _) fun z => ?_
    rw [piece_mem (hl x hx), piece_mem (hl y hy)]
    exact ⟨fun h => (r.symm W hx).trans h, fun h => r.trans h⟩
theorem reps_asc {X : List Nat} : Asc (repsL n ts (restL n X)) := asc_filter _ (rest_asc X)
end
def stAt (s : BSt) : Nat → Nat
  | 0 => s.c0
  | 1 => s.c1
  | 2 => s.c2
  | 3 => s.c3
  | 4 => s.c4
  | 5 => s.c5
  | _ => 0
structure SInv (n : Nat) (ts : List (Nat × Nat)) (s : BSt) : Prop where
  all : BInv n ts [] s.c
  less : ∀ v, v < n → BInv n ts [v] (stAt s v)
  none : ∀ v, n ≤ v → stAt s v = 0
noncomputable def numL (n : Nat) (ts : List (Nat × Nat)) (X : List Nat) : Nat := (repsL n ts (restL n X)).length
noncomputable def behB (n : Nat) (ts : List (Nat × Nat)) (v : Nat) : Bool := decide (numL n ts [] < numL n ts [v])
noncomputable def openB (n : Nat) (ts : List (Nat × Nat)) (L : List Nat) : Bool := L.all fun x => !behB n ts x
noncomputable def lotsN (n : Nat) (ts : List (Nat × Nat)) (v : Nat) : Nat := ((repsL n ts (restL n [v])).filter fun x => decide (x ∈ piece n ts (restL n []) v) && openB n ts (piece n ts (restL n [v]) x)).length
noncomputable def wantN (n : Nat) (ts : List (Nat × Nat)) : Nat := 2 * ((repsL n ts (restL n [])).filter fun x => openB n ts (piece n ts (restL n []) x)).length + ((List.range n).map fun v => if behB n ts v = true then lotsN n ts v else 0).sum
noncomputable def mostN (n : Nat) (ts : List (Nat × Nat)) : Nat := ((List.range n).map fun v => numL n ts [v]).foldl max 0
noncomputable def gbN (n : Nat) (ts : List (Nat × Nat)) : Nat := max (mostN n ts - 1) ((wantN n ts + 1) / 2)
noncomputable def needN (n : Nat) (ts : List (Nat × Nat)) : Nat := if numL n ts [] ≤ 1 ∧ mostN n ts ≤ 1 then 0 else gbN n ts
section
variable {n : Nat} {ts ts2 : List (Nat × Nat)} {a b : Nat} {s : BSt}
theorem SInv.same (h : SInv n ts s) (e : ∀ p, p ∈ ts ↔ p ∈ ts2) : SInv n ts2 s := ⟨h.all.same e, fun v hv => (h.less v hv).same e, h.none⟩
theorem updS_at (s : BSt) (a b v : Nat) : stAt (updS s a b) v = if v < 6 then Bt.upd (stAt s v) a b else 0 := by
  match v with
  | 0 | 1 | 2 | 3 | 4 | 5 => rfl
  | v + 6 => rw [if_neg (by omega)]; rfl
theorem upd_zero (a b : Nat) : Bt.upd 0 a b = 0 := upd_same (.inl (row_zero.mpr fun y _ => Nat.zero_testBit _))
theorem SInv.tie (W : Wb n ts) (ha : a < n) (hb : b < n) (hab : a ≠ b) (hn : n ≤ 6) (h : SInv n ts s) : SInv n (tieP ts a b) (updS s a b) := by
  refine ⟨h.all.tie W ha hb hab hn, fun v hv => ?_, fun v hv => ?_⟩
  · rw [updS_at, if_pos (by omega)]
    exact (h.less v hv).tie W ha hb hab hn
  · rw [updS_at]
    split
    · rw [h.none v hv, upd_zero]
    · rfl
end
end Dl

set_option Elab.async false
set_option linter.all false
set_option autoImplicit false
set_option maxRecDepth 100000
set_option maxHeartbeats 1000000
namespace Dl
open PySem L2
open Bt
end Dl

set_option Elab.async false
set_option linter.all false
set_option autoImplicit false
set_option maxRecDepth 100000
set_option maxHeartbeats 1000000
namespace Dl
open PySem L2
open Bt
section
variable {n : Nat} {ts ts2 : List (Nat × Nat)} {a b : Nat}
theorem tieP_in {p : Nat × Nat} (hab : a < b) : p ∈ tieP ts a b ↔ p ∈ ts ∨ p = (a, b) := by
  unfold tieP
  rw [ordP_mem, List.mem_append, List.mem_singleton, Nat.min_eq_left (by omega), Nat.max_eq_right (by omega)]
end
end Dl

set_option Elab.async false
set_option linter.all false
set_option autoImplicit false
set_option maxRecDepth 100000
set_option maxHeartbeats 1000000
namespace Dl
open PySem L2
section
variable {n : Nat} {ts : List (Nat × Nat)}
def lessL (lot : List Nat) (p : Nat) : List Nat := lot.filter fun x => decide (x ≠ p)
theorem less_mem {lot : List Nat} {p x : Nat} : x ∈ lessL lot p ↔ x ∈ lot ∧ x ≠ p := by
  unfold lessL
  rw [List.mem_filter, decide_eq_true_eq]
/-- a piece of the whole web -/
structure WholeP (n : Nat) (ts : List (Nat × Nat)) (P : List Nat) : Prop where
  ex : ∃ v, v < n ∧ P = piece n ts (restL n []) v
theorem in_rest0 {v : Nat} (hv : v < n) : v ∈ restL n [] := rest_mem.mpr ⟨hv, by simp⟩
theorem in_rest1 {v p : Nat} (hv : v < n) (h : v ≠ p) : v ∈ restL n [p] := rest_mem.mpr ⟨hv, by simpa using h⟩
theorem WholeP.at (W : Wb n ts) {P : List Nat} (h : WholeP n ts P) {p : Nat} (hp : p ∈ P) : p < n ∧ P = piece n ts (restL n []) p := by
  obtain ⟨v, hv, rfl⟩ := h.ex
  have r := (piece_mem hv).mp hp
  have hpn := r.lt hv
  exact ⟨hpn, (piece_eq W (fun x hx => (rest_mem.mp hx).1) (in_rest0 hv) (in_rest0 hpn)).mpr r⟩
theorem WholeP.mem (W : Wb n ts) {P : List Nat} (h : WholeP n ts P) {p x : Nat} (hp : p ∈ P) : x ∈ P ↔ Rch n ts (restL n []) p x := by
  obtain ⟨h1, h2⟩ := h.at W hp
  rw [h2, piece_mem h1]
theorem WholeP.asc {P : List Nat} (h : WholeP n ts P) : Asc P := by
  obtain ⟨v, hv, rfl⟩ := h.ex
  exact piece_asc _ _ _ _
theorem WholeP.lt (W : Wb n ts) {P : List Nat} (h : WholeP n ts P) : ∀ x ∈ P, x < n := fun x hx => (h.at W hx).1
theorem less_lt (W : Wb n ts) {P : List Nat} (h : WholeP n ts P) (p : Nat) : ∀ x ∈ lessL P p, x < n := fun x hx => h.lt W x (less_mem.mp hx).1
/-- what a lot of these is -/
inductive IsLot (n : Nat) (ts : List (Nat × Nat)) : List Nat → Prop
  | whole {P : List Nat} : WholeP n ts P → openB n ts P = true → IsLot n ts P
  | behind {P : List Nat} {p x : Nat} : WholeP n ts P → p ∈ P → behB n ts p = true → x ∈ lessL P p → openB n ts (piece n ts (restL n [p]) x) = true → IsLot n ts (piece n ts (restL n [p]) x)
theorem IsLot.ne {L : List Nat} (h : IsLot n ts L) (W : Wb n ts) : L ≠ [] := by
  cases h with
  | whole hw _ =>
    obtain ⟨v, hv, rfl⟩ := hw.ex
    intro e
    have := piece_self (n := n) (ts := ts) (lot := restL n []) hv
    rw [e] at this
    cases this
  | @behind P p x hw p1 p2 hx h2 =>
    intro e
    have := piece_self (n := n) (ts := ts) (lot := restL n [p]) (less_lt W hw p x hx)
    rw [e] at this
    cases this
theorem IsLot.asc {L : List Nat} (h : IsLot n ts L) : Asc L := by
  cases h with
  | whole hw _ => exact hw.asc
  | behind _ _ _ _ _ => exact piece_asc _ _ _ _
theorem IsLot.lt {L : List Nat} (h : IsLot n ts L) (W : Wb n ts) : ∀ x ∈ L, x < n := by
  cases h with
  | whole hw _ => exact hw.lt W
  | @behind P p x hw p1 p2 hx h2 => exact fun y hy => List.mem_range.mp (List.mem_filter.mp hy).1
theorem IsLot.open {L : List Nat} (h : IsLot n ts L) : openB n ts L = true := by
  cases h with
  | whole _ h => exact h
  | behind _ _ _ _ h => exact h
theorem open_no {L : List Nat} (h : openB n ts L = true) {x : Nat} (hx : x ∈ L) : behB n ts x = false := by
  unfold openB at h
  have := List.all_eq_true.mp h x hx
  simpa using this
/-- lots lie in one piece of the web -/
theorem IsLot.piece {L : List Nat} (h : IsLot n ts L) (W : Wb n ts) {x y : Nat} (hx : x ∈ L) (hy : y ∈ L) : Rch n ts (restL n []) x y := by
  cases h with
  | whole hw _ => exact (hw.mem W hx).mp hy
  | @behind P p u hw p1 p2 hu h2 =>
    have hun := less_lt W hw p u hu
    have r1 := (piece_mem hun).mp hx
    have r2 := (piece_mem hun).mp hy
    have hul : u ∈ restL n [p] := in_rest1 hun (less_mem.mp hu).2
    exact ((r1.symm W hul).trans r2).wide fun z hz => in_rest0 (rest_mem.mp hz).1
/-- the place behind which a lot lies is its one outlet -/
theorem lot_out (W : Wb n ts) {P : List Nat} (hw : WholeP n ts P) {p x : Nat} (p1 : p ∈ P) (hx : x ∈ lessL P p) : outL n ts (piece n ts (restL n [p]) x) = [p] := by
  have hxn := less_lt W hw p x hx
  have hpn := hw.lt W p p1
  have hxl : x ∈ restL n [p] := in_rest1 hxn (less_mem.mp hx).2
  have hpp : p ∉ piece n ts (restL n [p]) x := fun hm => by
    have := rch_in hxl ((piece_mem hxn).mp hm)
    have := (rest_mem.mp this).2
    simp at this
  refine asc_one (out_asc _) (List.pairwise_singleton _ _) fun z => ?_
  rw [out_mem, List.mem_singleton]
  constructor
  · rintro ⟨z1, z2, y, hy, hyl⟩
    refine Classical.byContradiction fun hne => z2 ?_
    rw [piece_mem hxn] at hyl ⊢
    exact .step hyl (nbr_symm W hy) (in_rest1 z1 hne)
  · rintro rfl
    refine ⟨hpn, hpp, ?_⟩
    have r : Rch n ts (restL n []) x z := (hw.mem W (less_mem.mp hx).1).mp p1
    have key : ∀ {u : Nat}, Rch n ts (restL n []) x u → (u ∈ piece n ts (restL n [z]) x) ∨ ∃ y ∈ piece n ts (restL n [z]) x, z ∈ nbr n ts y := fun {u} r => by
      induction r with
      | base => exact .inl (piece_self hxn)
      | @step u v hu hs hv ih =>
        rcases ih with ih | ih
        · by_cases c : v = z
          · exact .inr ⟨u, ih, c ▸ hs⟩
          · rw [piece_mem hxn] at ih ⊢
            exact .inl (.step ih hs (in_rest1 (nbr_lt hs) c))
        · exact .inr ih
    rcases key r with h | ⟨y, hy, hs⟩
    · exact absurd h hpp
    · exact ⟨y, nbr_symm W hs, hy⟩
theorem whole_out (W : Wb n ts) {P : List Nat} (hw : WholeP n ts P) : outL n ts P = [] := by
  refine List.eq_nil_iff_forall_not_mem.mpr fun z hz => ?_
  obtain ⟨z1, z2, y, hy, hyl⟩ := out_mem.mp hz
  exact z2 ((hw.mem W hyl).mpr (.step .base (nbr_symm W hy) (in_rest0 z1)))
end
end Dl

set_option Elab.async false
set_option linter.all false
set_option autoImplicit false
set_option maxRecDepth 100000
set_option maxHeartbeats 1000000
namespace Dl
open PySem L2
section
variable {n : Nat} {ts : List (Nat × Nat)}
noncomputable def wholeB (n : Nat) (ts : List (Nat × Nat)) : Bool := decide (numL n ts [] ≤ 1 ∧ mostN n ts ≤ 1)
theorem num_pos (W : Wb n ts) {X : List Nat} (h : restL n X ≠ []) : 1 ≤ numL n ts X := by
  obtain ⟨x, hx⟩ := List.exists_mem_of_ne_nil _ h
  obtain ⟨y, hy, _⟩ := rep_of W hx
  unfold numL
  exact List.length_pos_of_mem hy
theorem most_le {k : Nat} : mostN n ts ≤ k ↔ ∀ v, v < n → numL n ts [v] ≤ k := by
  obtain ⟨f1, _, f3⟩ := fold_max ((List.range n).map fun v => numL n ts [v]) 0
  unfold mostN
  constructor
  · intro h v hv
    exact Nat.le_trans (f1 _ (List.mem_map.mpr ⟨v, List.mem_range.mpr hv, rfl⟩)) h
  · intro h
    rcases f3 with e | e
    · rw [e]; exact Nat.zero_le _
    · obtain ⟨v, hv, e2⟩ := List.mem_map.mp e
      rw [← e2]
      exact h v (List.mem_range.mp hv)
theorem WholeP.len {P : List Nat} (h : WholeP n ts P) (W : Wb n ts) : P.length ≤ n := by
  have := nat_nodup_len P (List.range n) (asc_nodup h.asc) fun x hx => List.mem_range.mpr (h.lt W x hx)
  rwa [List.length_range] at this
end
end Dl

set_option Elab.async false
set_option linter.all false
set_option autoImplicit false
set_option maxRecDepth 100000
set_option maxHeartbeats 1000000
namespace Dl
open PySem L2
section
theorem rises_pw {α : Type} {lt : α → α → Bool} : ∀ {xs : List α}, xs.Pairwise (fun a b => lt a b = true) → risesB lt xs = true
  | [], _ => rfl
  | [_], _ => rfl
  | a :: b :: r, h => by
    obtain ⟨h1, h2⟩ := List.pairwise_cons.mp h
    have ih := rises_pw (xs := b :: r) h2
    unfold risesB at *
    show (lt a b && (stepsB lt (b :: r)).all id) = true
    rw [ih, h1 b List.mem_cons_self]
    rfl
variable {n : Nat} {ts : List (Nat × Nat)}
theorem IsLot.out {L : List Nat} (h : IsLot n ts L) (W : Wb n ts) : (outL n ts L).length ≤ 1 ∧ (wholeB n ts = false → (outL n ts L).length + 1 ≤ n - L.length) := by
  have hlen : ∀ {L : List Nat}, Asc L → (∀ x ∈ L, x < n) → L.length ≤ n := fun {L} ha hl => by
    have := nat_nodup_len L (List.range n) (asc_nodup ha) fun x hx => List.mem_range.mpr (hl x hx)
    rwa [List.length_range] at this
  cases h with
  | whole hw ho =>
    rw [whole_out W hw]
    refine ⟨by simp, fun hf => ?_⟩
    rw [List.length_nil]
    have h1 := hlen hw.asc (hw.lt W)
    refine Classical.byContradiction fun hno => ?_
    have hall : ∀ x, x < n → x ∈ L := fun x hx => Classical.byContradiction fun hm => by
      have := nat_nodup_len (x :: L) (List.range n) (List.nodup_cons.mpr ⟨hm, asc_nodup hw.asc⟩) fun y hy => List.mem_range.mpr (by
        rcases List.mem_cons.mp hy with rfl | hy
        · exact hx
        · exact hw.lt W y hy)
      rw [List.length_cons, List.length_range] at this
      omega
    have hone : numL n ts [] ≤ 1 := by
      unfold numL
      match hr : repsL n ts (restL n []) with
      | [] => simp
      | [_] => simp
      | x :: y :: r =>
        exfalso
        have hx : x ∈ repsL n ts (restL n []) := by rw [hr]; exact List.mem_cons_self
        have hy : y ∈ repsL n ts (restL n []) := by rw [hr]; simp
        have hxn := (rest_mem.mp (reps_mem.mp hx).1).1
        have hyn := (rest_mem.mp (reps_mem.mp hy).1).1
        have := reps_one W hx hy ((hw.mem W (hall x hxn)).mp (hall y hyn))
        have nd : (repsL n ts (restL n [])).Nodup := asc_nodup reps_asc
        rw [hr, this] at nd
        exact (List.nodup_cons.mp nd).1 List.mem_cons_self
    unfold wholeB at hf
    rw [decide_eq_false_iff_not] at hf
    refine hf ⟨hone, most_le.mpr fun v hv => ?_⟩
    have := open_no ho (hall v hv)
    unfold behB at this
    have := of_decide_eq_false this
    omega
  | @behind P p x hw p1 p2 hx ho =>
    rw [lot_out W hw p1 hx]
    refine ⟨by simp, fun _ => ?_⟩
    rw [List.length_singleton]
    -- another place behind p
    have hpn := hw.lt W p p1
    have hxn := less_lt W hw p x hx
    have hxl : x ∈ restL n [p] := in_rest1 hxn (less_mem.mp hx).2
    have hpp : p ∉ Dl.piece n ts (restL n [p]) x := fun hm => by
      have := (rest_mem.mp (rch_in hxl ((piece_mem hxn).mp hm))).2
      simp at this
    obtain ⟨z, hz, hzn⟩ : ∃ z, z ∉ Dl.piece n ts (restL n [p]) x ∧ z < n ∧ z ≠ p := by
      refine Classical.byContradiction fun hno => ?_
      have hall : ∀ z, z < n → z ≠ p → z ∈ Dl.piece n ts (restL n [p]) x := fun z h1 h2 => Classical.byContradiction fun h3 => hno ⟨z, h3, h1, h2⟩
      have h1 : numL n ts [p] ≤ 1 := by
        unfold numL
        match hr : repsL n ts (restL n [p]) with
        | [] => simp
        | [_] => simp
        | u :: v :: r =>
          exfalso
          have hu : u ∈ repsL n ts (restL n [p]) := by rw [hr]; exact List.mem_cons_self
          have hv : v ∈ repsL n ts (restL n [p]) := by rw [hr]; simp
          obtain ⟨u1, u2⟩ := rest_mem.mp (reps_mem.mp hu).1
          obtain ⟨v1, v2⟩ := rest_mem.mp (reps_mem.mp hv).1
          have ru := (piece_mem hxn).mp (hall u u1 (by simpa using u2))
          have rv := (piece_mem hxn).mp (hall v v1 (by simpa using v2))
          have := reps_one W hu hv ((ru.symm W hxl).trans rv)
          have nd : (repsL n ts (restL n [p])).Nodup := asc_nodup reps_asc
          rw [hr, this] at nd
          exact (List.nodup_cons.mp nd).1 List.mem_cons_self
      have h2 : 1 ≤ numL n ts [] := num_pos W (List.ne_nil_of_mem (in_rest0 hpn))
      unfold behB at p2
      have := of_decide_eq_true p2
      omega
    have hl := nat_nodup_len (z :: p :: Dl.piece n ts (restL n [p]) x) (List.range n) (List.nodup_cons.mpr ⟨fun h => by
      rcases List.mem_cons.mp h with h | h
      · exact hzn.2 h
      · exact hz h, List.nodup_cons.mpr ⟨hpp, asc_nodup (piece_asc _ _ _ _)⟩⟩) fun y hy => List.mem_range.mpr (by
      rcases List.mem_cons.mp hy with rfl | hy
      · exact hzn.1
      · rcases List.mem_cons.mp hy with rfl | hy
        · exact hpn
        · exact List.mem_range.mp (List.mem_filter.mp hy).1)
    rw [List.length_cons, List.length_cons, List.length_range] at hl
    omega
end
end Dl

set_option Elab.async false
set_option linter.all false
set_option autoImplicit false
set_option maxRecDepth 100000
set_option maxHeartbeats 1000000
namespace Dl
open PySem L2
section
variable {n : Nat} {ts ts2 : List (Nat × Nat)}
inductive Mends (n : Nat) : List (Nat × Nat) → List (Nat × Nat) → List (Nat × Nat) → Prop
  | nil {ts : List (Nat × Nat)} : Mends n ts [] ts
  | cons {ts ts' Gs : List (Nat × Nat)} {p : Nat × Nat} : p ∈ looseP n ts → needN n ts = needN n (tieP ts p.1 p.2) + 1 → Mends n (tieP ts p.1 p.2) Gs ts' → Mends n ts (p :: Gs) ts'
theorem loose_ord {p : Nat × Nat} (hp : p ∈ looseP n ts) (W : Wb n ts) : p.1 < p.2 ∧ p.2 < n ∧ p ∉ ts := by
  obtain ⟨h1, h2, h3⟩ := loose_mem.mp hp
  refine ⟨h1, h2, fun hm => h3 (nbr_is.mpr ⟨h2, by omega, ?_⟩)⟩
  rw [Nat.min_eq_left (by omega), Nat.max_eq_right (by omega)]
  exact hm
theorem ord_loose {p : Nat × Nat} (h1 : p.1 < p.2) (h2 : p.2 < n) (h3 : p ∉ ts) : p ∈ looseP n ts := by
  refine loose_mem.mpr ⟨h1, h2, fun hm => h3 ?_⟩
  obtain ⟨_, _, h⟩ := nbr_is.mp hm
  rw [Nat.min_eq_left (by omega), Nat.max_eq_right (by omega)] at h
  exact h
theorem Mends.told {ts ts' Gs : List (Nat × Nat)} (h : Mends n ts Gs ts') (W : Wb n ts) : Wb n ts' ∧ (∀ q, q ∈ ts' ↔ q ∈ ts ∨ q ∈ Gs) ∧ Gs.Nodup ∧ ∀ q ∈ Gs, q ∈ looseP n ts := by
  induction h with
  | nil => exact ⟨W, fun q => ⟨.inl, fun h => h.elim id fun h => (by cases h)⟩, List.nodup_nil, fun q h => (by cases h)⟩
  | @cons ts ts' Gs p hp _ _ ih =>
    obtain ⟨h1, h2, h3⟩ := loose_ord hp W
    obtain ⟨i1, i2, i3, i4⟩ := ih (tieP_web W (by omega) h2 (by omega))
    have hin : ∀ q, q ∈ tieP ts p.1 p.2 ↔ q ∈ ts ∨ q = p := fun q => tieP_in h1
    refine ⟨i1, fun q => ?_, List.nodup_cons.mpr ⟨fun hm => ?_, i3⟩, fun q hq => ?_⟩
    · rw [i2, hin, List.mem_cons]
      constructor
      · rintro ((h | h) | h)
        · exact .inl h
        · exact .inr (.inl h)
        · exact .inr (.inr h)
      · rintro (h | h | h)
        · exact .inl (.inl h)
        · exact .inl (.inr h)
        · exact .inr h
    · exact (loose_ord (i4 p hm) (tieP_web W (by omega) h2 (by omega))).2.2 ((hin p).mpr (.inr rfl))
    · rcases List.mem_cons.mp hq with rfl | hq
      · exact hp
      · obtain ⟨g1, g2, g3⟩ := loose_ord (i4 q hq) (tieP_web W (by omega) h2 (by omega))
        exact ord_loose g1 g2 fun hm => g3 ((hin q).mpr (.inl hm))
end
end Dl

set_option Elab.async false
set_option linter.all false
set_option autoImplicit false
set_option maxRecDepth 100000
set_option maxHeartbeats 1000000
namespace Dl
open PySem L2
section
variable {n : Nat} {ts ts2 : List (Nat × Nat)}
end
end Dl

set_option Elab.async false
set_option linter.all false
set_option autoImplicit false
set_option maxRecDepth 100000
set_option maxHeartbeats 1000000
namespace Dl
open PySem L2
section
variable {α : Type} {lt : α → α → Bool} {g : α → D} {xs : List α}
end
section
variable {n : Nat} {ts ts2 : List (Nat × Nat)}
end
end Dl

set_option Elab.async false
set_option linter.all false
set_option autoImplicit false
set_option maxRecDepth 100000
set_option maxHeartbeats 1000000
namespace Dl
open PySem L2 PySem.Spec PyProof.Rows
section
variable {X : Cx} {R : Res} {ρ : List Cell} {tg iter elt : Expr} {ifs : List Expr} {scope : Scope} {own : List (Str × Nat)} {pos : Pos} {k : Nat}
end
end Dl

set_option Elab.async false
set_option linter.all false
set_option autoImplicit false
set_option maxRecDepth 100000
set_option maxHeartbeats 1000000
namespace Dl
open PySem L2 PySem.Spec PyProof.Rows
end Dl

set_option Elab.async false
set_option linter.all false
set_option autoImplicit false
set_option maxRecDepth 100000
set_option maxHeartbeats 4000000
namespace Dl
open PySem L2 PySem.Spec PyProof.Rows
section
variable {prog : Program} {w : World} {A : Around} {E : Value → Shared → Prop} {s : Shared}
end
section
variable {prog : Program} {w : World} {A : Around} {E : Value → Shared → Prop} {s : Shared}
variable {z TI TO i1 i2 l1 l2 : Addr} {k : Nat} {xs ys : Array Value} {x y a b : Value}
end
section
variable {X : Cx} {R : Res} {ρ : List Cell} {a b : Expr} {pos p tpos p3 p4 : Pos} {elts : List Expr} {kk k3 : Nat}
end
end Dl

set_option Elab.async false
set_option linter.all false
set_option autoImplicit false
set_option maxRecDepth 100000
set_option maxHeartbeats 1000000
namespace Dl
open PySem L2
section
variable {α : Type} {X : Cx} {R : Res} {rk : RK α} {ρ : List Cell} {rest : List Stmt} {κ : Kt} {q : α → Nat → Prop} {a b c d' : Expr} {pos : Pos}
end
end Dl

set_option Elab.async false
set_option linter.all false
set_option autoImplicit false
set_option maxRecDepth 100000
set_option maxHeartbeats 1000000
namespace Dl
open PySem L2 PySem.Spec PyProof.Rows
section
variable {X : Cx} {R : Res} {ρ : List Cell} {tg iter kx vx : Expr} {scope : Scope} {own : List (Str × Nat)} {pos : Pos} {k : Nat}
end
def RK.odi : RK (List (D × D)) := ⟨fun en G' H' v kvs => ∃ p u, v = .ref p ∧ en p = none ∧ G' p = none ∧ H' p = some u ∧ OwnR G' p u (.dict kvs)⟩
instance : Falls RK.odi := ⟨fun _ _ _ => False, fun _ h _ _ _ => h.elim⟩
section
variable {α : Type} {X : Cx} {R : Res} {rk : RK α} {ρ : List Cell} {rest : List Stmt} {e : Expr} {es : List Expr} {pos p p1 p2 p3 : Pos} {k n : Nat} {x : Str}
end
theorem JN.by {X : Cx} {R : Res} {ρ : List Cell} {e : Expr} {o o' : Option (List (D × D))} (h : o = o') (he : JNE X R ρ e o) : JNE X R ρ e o' := h ▸ he
section
variable {P : Program} {w : World} {K : PySem.W.Frag} {mg : Str → Option Value} {base : Heap}
end
section
variable {α : Type} {X : Cx} {R : Res} {rk : RK α} {ρ : List Cell} {rest : List Stmt} {pos p1 p2 p3 : Pos} {x : Str} {kvs : List (D × D)}
end
end Dl

set_option Elab.async false
set_option linter.all false
set_option autoImplicit false
set_option maxRecDepth 100000
set_option maxHeartbeats 1000000
namespace Dl
open PySem L2 PySem.Spec PyProof.Rows
/-- a pair: where the tuple and its key stand, the worth, the key -/
structure PrE where
  T : Addr
  b : Addr
  v : V
  k : NestedKey
def putE (E : List PrE) (L : List Ent) : List Ent := E.foldl (fun L e => storeL L e.k e.b e.v) L
inductive PRel (h : Heap) : List PrE → List (NestedKey × Addr × Value) → Prop
  | nil : PRel h [] []
  | cons {e : PrE} {w : Value} {E : List PrE} {xs : List (NestedKey × Addr × Value)} : RelV e.v w → PairAt h e.T (.ref e.b) w → PRel h E xs → PRel h (e :: E) ((e.k, e.b, w) :: xs)
theorem PRel.len {h : Heap} {E : List PrE} {xs : List (NestedKey × Addr × Value)} (r : PRel h E xs) : xs.length = E.length := by
  induction r with
  | nil => rfl
  | cons _ _ _ ih => rw [List.length_cons, List.length_cons, ih]
theorem PRel.at {h : Heap} {E : List PrE} {xs : List (NestedKey × Addr × Value)} (r : PRel h E xs) : ∀ (j : Nat) (x : NestedKey × Addr × Value), xs[j]? = some x → ∃ e, E[j]? = some e ∧ PairAt h e.T (.ref x.2.1) x.2.2 := by
  induction r with
  | nil => exact fun j x hx => by simp at hx
  | @cons e w E xs _ hp _ ih =>
    intro j x hx
    cases j with
    | zero =>
      have hx : (e.k, e.b, w) = x := by simpa using hx
      subst hx
      exact ⟨e, rfl, hp⟩
    | succ j => exact ih j x (by simpa using hx)
theorem PRel.ent {h : Heap} {E : List PrE} {xs : List (NestedKey × Addr × Value)} (r : PRel h E xs) : ∀ {L : List Ent} {ys : List (NestedKey × Addr × Value)}, EntR L ys → EntR (putE E L) (storedAllH ys xs) := by
  induction r with
  | nil => exact fun h => h
  | cons rv _ _ ih => exact fun g => ih (store_ent g rv)
theorem PRel.mem {h : Heap} {E : List PrE} {xs : List (NestedKey × Addr × Value)} (r : PRel h E xs) : ∀ x ∈ xs, ∃ e ∈ E, x.1 = e.k ∧ x.2.1 = e.b := by
  induction r with
  | nil => exact fun x hx => by cases hx
  | cons _ _ _ ih =>
    intro x hx
    rcases List.mem_cons.mp hx with rfl | hx
    · exact ⟨_, List.mem_cons_self, rfl, rfl⟩
    · obtain ⟨e, he, g⟩ := ih x hx
      exact ⟨e, List.mem_cons_of_mem _ he, g⟩
section
variable {X : Cx} {R : Res} {ρ : List Cell} {e : Expr} {es : List Expr} {n : Nat} {pos p : Pos} {x : Str} {T : String} {r : List V → Hp → VK → Prop}
end
end Dl

set_option Elab.async false
set_option linter.all false
set_option autoImplicit false
set_option maxRecDepth 100000
set_option maxHeartbeats 1000000
namespace Dl
open PySem L2
def RK.opt : RK D := ⟨fun en G' H' v d => (d = .none ∧ v = .non) ∨ ∃ kvs, d = .dict kvs ∧ RK.odi.rel en G' H' v kvs⟩
instance : Falls RK.opt := ⟨fun _ _ _ => False, fun _ h _ _ _ => h.elim⟩
section
variable {P : Program} {w : World} {K : PySem.W.Frag} {mg : Str → Option Value} {base : Heap}
end
def tQ (R : Res) (ρ : List Cell) (T : M D) : TE := fun σ H Q => ∃ G m q, Sit R σ ρ G H m ∧ T q m ∧ (∀ G' H' m', Sit R σ ρ G' H' m' → Grow R.vol G H G' H' → q .none m' → Q .non H') ∧
  ∀ p u kvs G' H' m', Sit R σ ρ G' H' m' → Grow R.vol G H G' H' → H p = none → G' p = none → H' p = some u → OwnR G' p u (.dict kvs) → q (.dict kvs) m' → Q (.ref p) H'
def JQ (X : Cx) (R : Res) (ρ : List Cell) (e : Expr) (T : M D) : Prop := PE X e (tQ R ρ T)
section
variable {α : Type} {X : Cx} {R : Res} {rk : RK α} {ρ : List Cell} {rest sts : List Stmt} {κ : Kt} {e : Expr} {es : List Expr} {pos p px : Pos} {k n : Nat} {x : Str}
theorem JQ.by {o o' : Option D} (h : o = o') (he : JQ X R ρ e (lift o)) : JQ X R ρ e (lift o') := h ▸ he
end
section
variable {X : Cx} {R : Res} {ρ : List Cell} {e : Expr} {lo hi : Option Expr} {pos p2 : Pos}
end
end Dl

set_option Elab.async false
set_option linter.all false
set_option autoImplicit false
set_option maxRecDepth 100000
set_option maxHeartbeats 1000000
namespace Dl
open PySem L2 PySem.Spec PyProof.Rows
def dStr : D → Option D
  | .int i => if i.natAbs.log2 < 1920 then some (.str (toString i)) else none
  | _ => none
theorem cd_str : CallD (fun xs H Q => ∃ i, xs = [V.int i] ∧ i.natAbs.log2 < 1920 ∧ Q (.str (toString i)) H) (F1 dStr) := by
  intro G H vs ds z Q gh r hF k
  cases r with
  | nil => cases hF
  | cons a b =>
    cases b with
    | cons _ _ => cases hF
    | nil =>
      cases a with
      | int i =>
        have hF : (if i.natAbs.log2 < 1920 then some (PyData.str (toString i)) else none) = some z := hF
        by_cases h : i.natAbs.log2 < 1920
        · rw [if_pos h] at hF
          cases hF
          exact ⟨i, rfl, h, k _ G H (Grow.refl _ _ _) gh (.str _)⟩
        · rw [if_neg h] at hF
          cases hF
      | _ => cases hF
def dLenX : D → Option D
  | .str z => if z.length ≤ sizeLine then some (.int z.length) else none
  | _ => none
theorem cd_lenX : CallD (fun xs H Q => ∃ z, xs = [V.str z] ∧ z.length ≤ sizeLine ∧ Q (.int z.length) H) (F1 dLenX) := by
  intro G H vs ds z Q gh r hF k
  cases r with
  | nil => cases hF
  | cons a b =>
    cases b with
    | cons _ _ => cases hF
    | nil =>
      cases a with
      | str x =>
        have hF : (if x.length ≤ sizeLine then some (PyData.int x.length) else none) = some z := hF
        by_cases h : x.length ≤ sizeLine
        · rw [if_pos h] at hF
          cases hF
          exact ⟨x, rfl, h, k _ G H (Grow.refl _ _ _) gh (.int _)⟩
        · rw [if_neg h] at hF
          cases hF
      | _ => cases hF
def dIntX : D → Option D
  | .str a => if a.length ≤ 640 then (PySem.intText? a).map .int else none
  | _ => none
theorem cd_intX : CallD (fun xs H Q => ∃ a n, xs = [V.str a] ∧ PySem.intText? a = some n ∧ a.length ≤ 640 ∧ Q (.int n) H) (F1 dIntX) := by
  intro G H vs ds z Q gh r hF k
  cases r with
  | nil => cases hF
  | cons a b =>
    cases b with
    | cons _ _ => cases hF
    | nil =>
      cases a with
      | str x =>
        have hF : (if x.length ≤ 640 then (PySem.intText? x).map PyData.int else none) = some z := hF
        by_cases h : x.length ≤ 640
        · rw [if_pos h] at hF
          obtain ⟨n, hn, rfl⟩ := Option.map_eq_some_iff.mp hF
          exact ⟨x, n, rfl, hn, h, k _ G H (Grow.refl _ _ _) gh (.int _)⟩
        · rw [if_neg h] at hF
          cases hF
      | _ => cases hF
def dNotInX : D → D → Option D
  | .str i, .str j => some (.bool (!(!(Builtin.Str.occurrences j i 0 j.length 1).isEmpty)))
  | _, _ => none
theorem od_notInX : OpD (fun x y H Q => ∃ i j, x = V.str i ∧ y = V.str j ∧ Q (.bl (!(!(Builtin.Str.occurrences j i 0 j.length 1).isEmpty))) H) dNotInX := by
  intro G H x y d e z Q gh rx ry hf k
  cases rx with
  | str i =>
    cases ry with
    | str j => cases hf; exact ⟨i, j, rfl, rfl, k _ G H (Grow.refl _ _ _) gh (.bl _)⟩
    | _ => cases hf
  | _ => cases hf
def dIxX : D → D → Option D
  | .str z, .int i => if z.length ≤ sizeLine then (atI z.cps.toList i).map fun c => .str ⟨#[c]⟩ else none
  | _, _ => none
theorem od_ixX : OpD rIxS dIxX := by
  intro G H x y d e z Q gh rx ry hf k
  cases rx with
  | str w =>
    cases ry with
    | int i =>
      have hf : (if w.length ≤ sizeLine then (atI w.cps.toList i).map fun c => PyData.str ⟨#[c]⟩ else none) = some z := hf
      by_cases h : w.length ≤ sizeLine
      · rw [if_pos h] at hf
        obtain ⟨c, hc, rfl⟩ := Option.map_eq_some_iff.mp hf
        exact ⟨w, i, c, rfl, rfl, h, hc, k _ G H (Grow.refl _ _ _) gh (.str _)⟩
      · rw [if_neg h] at hf
        cases hf
    | _ => cases hf
  | _ => cases hf
section
variable {X : Cx} {R : Res} {ρ : List Cell} {a b : Expr} {pos : Pos}
theorem je_ixX {oa ob : Option D} (ha : JE X R ρ a oa) (hb : JE X R ρ b ob) (hs : PlainIx b := by exact fun _ _ => rfl) : JE X R ρ (.Subscript a b pos) (b2 dIxX oa ob) := (jm_ix ix_str od_ixX ha hb hs).imp fun _ _ => lift2
end
def dSigns : D → Option (List D)
  | .str z => some (z.cps.toList.map fun c => .str ⟨#[c]⟩)
  | _ => none
theorem walk_s {tg : Expr} {G : Hp} {z : Str} : IsWalk tg G (Its z) (z.cps.toList.map fun c => PyData.str ⟨#[c]⟩) where
  go := fun i H s hi => by
    rw [List.length_map, Array.length_toList] at hi
    exact hi
  stop := fun H s => by
    rw [List.length_map, Array.length_toList]
    exact Nat.le_refl _
  yld := fun i H x H' s hi y => by
    obtain ⟨rfl, c, hc, rfl⟩ := y
    exact ⟨.str ⟨#[c]⟩, by rw [List.getElem?_map, Array.getElem?_toList, hc]; rfl, .inl ⟨rfl, .str _⟩⟩
section
variable {X : Cx} {R : Res} {ρ : List Cell} {tg e : Expr}
theorem ji_signs {T : M D} (h : JM X R ρ e T) : JI X R ρ tg e (fun q => T fun d => lift (dSigns d) q) := by
  refine PI.imp (pi_str h) fun σ H Rr ⟨G, m, q, S, t, k⟩ => ⟨G, m, _, S, t, fun v d G1 H1 m1 S1 g1 r1 q1 => ?_⟩
  obtain ⟨ds, hd, q1⟩ := q1
  cases r1 with
  | str z =>
    cases hd
    exact ⟨z, rfl, k _ _ G1 H1 m1 S1 g1 walk_s q1⟩
  | _ => cases hd
theorem jie_signs {o : Option D} (h : JE X R ρ e o) : JIE X R ρ tg e (o.bind dSigns) := (ji_signs h).imp fun _ _ => lift1
end
def dSplit : D → D → Option (List D)
  | .str a, .str b => if (b.length == 0) = false ∧ a.length + 2 ≤ sizeLine then some ((Txt.split a b).map .str) else none
  | _, _ => none
def strsD : List D → Option (List Str)
  | [] => some []
  | .str z :: ds => (strsD ds).map (z :: ·)
  | _ => none
theorem strsD_V {G : Hp} : ∀ {ds : List D} {vs : List V} {ys : List Str}, RpL G vs ds → strsD ds = some ys → vs = ys.map V.str
  | [], _, _, r, h => by cases r; cases h; rfl
  | d :: ds, _, _, r, h => by
    cases r with
    | cons a b =>
      cases a with
      | str z =>
        obtain ⟨zs, h1, rfl⟩ := Option.map_eq_some_iff.mp (show (strsD ds).map (z :: ·) = some _ from h)
        rw [strsD_V b h1]
        rfl
      | _ => cases h
def dJoin : D → D → Option D
  | .str a, .list ds => (strsD ds).bind fun ys => if (ys.map (·.length)).sum + ys.length * a.length ≤ 16777216 then some (.str (Txt.join a ys)) else none
  | _, _ => none
section
variable {X : Cx} {R : Res} {ρ : List Cell} {o e : Expr} {apos pos : Pos}
theorem rpl_strs {G : Hp} : ∀ ys : List Str, RpL G (ys.map V.str) (ys.map PyData.str)
  | [] => .nil
  | y :: ys => .cons (.str y) (rpl_strs ys)
def splM (To T : M D) : M (List D) := fun q => To fun l m => (∃ a, l = .str a) ∧ T (fun d m2 => lift (dSplit l d) q m2) m
def splO (oo oe : Option D) : Option (List D) := oo.bind fun l => match l with
  | .str a => oe.bind fun d => dSplit (.str a) d
  | _ => none
theorem jl_split {To T : M D} (ho : JM X R ρ o To) (he : JM X R ρ e T) (hs : starEach [e] X.env = [(false, eval e X.env)] := by rfl) (hbase : attributeBase o "split" X.env (eval o X.env) = eval o X.env := by rfl) (hline : (apos.endLine == pos.line) = true := by rfl) :
    JL X R ρ (.Call (.Attribute o "split" apos) [e] [] pos) (splM To T) := by
  refine PE.imp (pe_split ho he hs hbase hline) fun σ H Q ⟨G, m, q, S, t, k⟩ => ⟨G, m, _, S, t, fun v d G1 H1 m1 S1 g1 r1 q1 => ?_⟩
  obtain ⟨⟨a, rfl⟩, q1⟩ := q1
  cases r1 with
  | str a =>
    refine ⟨⟨a, rfl⟩, G1, m1, _, S1, q1, fun w d G2 H2 m2 S2 g2 r2 q2 => ?_⟩
    obtain ⟨z, hz, q2⟩ := q2
    cases r2 with
    | str b =>
      have hz : (if (b.length == 0) = false ∧ a.length + 2 ≤ sizeLine then some ((Txt.split a b).map PyData.str) else none) = some z := hz
      by_cases ok : (b.length == 0) = false ∧ a.length + 2 ≤ sizeLine
      · rw [if_pos ok] at hz
        cases hz
        refine ⟨a, b, rfl, rfl, ok.1, ok.2, fun p hp => ?_⟩
        obtain ⟨g4, s4⟩ := grow_own S2.gh hp (.lst ((Txt.split a b).map V.str))
        obtain ⟨S4, g4'⟩ := S2.growS g4 s4
        have g := g1.trans S1.vh g2
        exact k _ _ _ _ _ m2 S4 (g.trans S2.vh g4') (free_of g S2.vh hp) (S2.gh.free hp) L2.upd_same (rpl_strs _) q2
      · rw [if_neg ok] at hz
        cases hz
    | _ => cases hz
theorem jle_split {oo oe : Option D} (ho : JE X R ρ o oo) (he : JE X R ρ e oe) (hs : starEach [e] X.env = [(false, eval e X.env)] := by rfl) (hbase : attributeBase o "split" X.env (eval o X.env) = eval o X.env := by rfl) (hline : (apos.endLine == pos.line) = true := by rfl) :
    JLE X R ρ (.Call (.Attribute o "split" apos) [e] [] pos) (splO oo oe) := (jl_split ho he hs hbase hline).imp fun q m h => by
  obtain ⟨z, h1, hq⟩ := h
  obtain ⟨l, h2, h3⟩ := Option.bind_eq_some_iff.mp h1
  refine ⟨l, h2, ?_⟩
  match l, h3 with
  | .str a, h3 =>
    obtain ⟨d, h4, h5⟩ := Option.bind_eq_some_iff.mp (show oe.bind (fun d => dSplit (.str a) d) = some z from h3)
    exact ⟨⟨a, rfl⟩, d, h4, z, h5, hq⟩
def joiM (To T : M D) : M D := fun q => To fun l m => (∃ a, l = .str a) ∧ T (fun d m2 => lift (dJoin l d) q m2) m
def joiO (oo oe : Option D) : Option D := oo.bind fun l => match l with
  | .str a => oe.bind fun d => dJoin (.str a) d
  | _ => none
theorem jm_join {To T : M D} (ho : JM X R ρ o To) (he : JM X R ρ e T) (hs : starEach [e] X.env = [(false, eval e X.env)] := by rfl) (hbase : attributeBase o "join" X.env (eval o X.env) = eval o X.env := by rfl) (hline : (apos.endLine == pos.line) = true := by rfl) :
    JM X R ρ (.Call (.Attribute o "join" apos) [e] [] pos) (joiM To T) := by
  refine PE.imp (pe_join ho he hs hbase hline) fun σ H Q ⟨G, m, q, S, t, k⟩ => ⟨G, m, _, S, t, fun v d G1 H1 m1 S1 g1 r1 q1 => ?_⟩
  obtain ⟨⟨a, rfl⟩, q1⟩ := q1
  cases r1 with
  | str a =>
    refine ⟨⟨a, rfl⟩, G1, m1, _, S1, q1, fun w d G2 H2 m2 S2 g2 r2 q2 => ?_⟩
    obtain ⟨z, hz, q2⟩ := q2
    cases r2 with
    | @lst p vs ds hp r =>
      obtain ⟨ys, hy, hz⟩ := Option.bind_eq_some_iff.mp (show (strsD ds).bind (fun ys => if (ys.map (·.length)).sum + ys.length * a.length ≤ 16777216 then some (PyData.str (Txt.join a ys)) else none) = some z from hz)
      by_cases ok : (ys.map (·.length)).sum + ys.length * a.length ≤ 16777216
      · rw [if_pos ok] at hz
        cases hz
        cases strsD_V r hy
        exact ⟨a, p, ys, rfl, rfl, .inl (SqL.of (S2.gh _ _ hp)), ok, k _ _ G2 H2 m2 S2 (g1.trans S1.vh g2) (.str _) q2⟩
      · rw [if_neg ok] at hz
        cases hz
    | _ => cases hz
theorem je_join {oo oe : Option D} (ho : JE X R ρ o oo) (he : JE X R ρ e oe) (hs : starEach [e] X.env = [(false, eval e X.env)] := by rfl) (hbase : attributeBase o "join" X.env (eval o X.env) = eval o X.env := by rfl) (hline : (apos.endLine == pos.line) = true := by rfl) :
    JE X R ρ (.Call (.Attribute o "join" apos) [e] [] pos) (joiO oo oe) := (jm_join ho he hs hbase hline).imp fun q m h => by
  obtain ⟨z, h1, hq⟩ := h
  obtain ⟨l, h2, h3⟩ := Option.bind_eq_some_iff.mp h1
  refine ⟨l, h2, ?_⟩
  match l, h3 with
  | .str a, h3 =>
    obtain ⟨d, h4, h5⟩ := Option.bind_eq_some_iff.mp (show oe.bind (fun d => dJoin (.str a) d) = some z from h3)
    exact ⟨⟨a, rfl⟩, d, h4, z, h5, hq⟩
end
section
variable {α : Type} {X : Cx} {R : Res} {rk : RK α} {ρ : List Cell} {κ : KtE α} {sts : List Stmt}
theorem jke_never : JKE X R rk ρ sts κ none := fun a => ⟨fun _ _ _ _ _ _ ⟨_, _, _, _, _, t, _⟩ => nomatch t⟩
theorem Bx.nox {X : Cx} {k : Nat} (B : Bx X k) : Bx X.nox k := ⟨B.hr, B.hg, B.hc, B.nd, PassesOwn.never⟩
variable {st : Stmt} {rest : List Stmt} {e : Expr} {pos pos2 : Pos} {h₀ : ExceptHandler} {hs : List ExceptHandler}
theorem jk_tryE {κ : Kt} {q : α → Nat → Prop} {T : M D} {a : Nat → Prop} (he : JM X.nox R ρ e T) (hr : JK X R rk ρ rest κ q a) (hw : swapsWith e none pos.line X.env = pure false := by rfl) : JK X R rk ρ (.Try [.Expr e pos] (h₀ :: hs) [] [] pos2 :: rest) κ q (T fun _ => a) :=
  PSs.imp (pss_cons (ps_try_thru0 (X := X) (pss_one (ps_expr he hw))) hr) fun Dn σ H ⟨Gb, G, m, S, g, t, ls⟩ => ⟨G, m, _, S, t, fun v d G1 H1 m1 S1 g1 r1 q1 => ⟨Gb, G1, m1, S1, S.tr g g1, q1, ls.sm g1.gg⟩⟩
theorem jke_tryE {oe : Option D} {o : Option α} (he : JE X.nox R ρ e oe) (hr : JKE X R rk ρ rest κ o) (hw : swapsWith e none pos.line X.env = pure false := by rfl) : JKE X R rk ρ (.Try [.Expr e pos] (h₀ :: hs) [] [] pos2 :: rest) κ (oe.bind fun _ => o) := fun a =>
  (jk_tryE he (hr a) hw).imp fun _ h => bind_lift (k := fun _ => o) h
end
end Dl

set_option Elab.async false
set_option linter.all false
set_option autoImplicit false
set_option maxRecDepth 100000
namespace Dl
open PySem L2
@[irreducible] def m_is_tie (n1 value2 : D) : Option (D) :=
  (andV (C2 m_is_lot (some n1) (some value2)) (b2 dEq (C1 dLen (some value2)) (some (PyData.int 2))))
@[irreducible] def m_is_web (value1 : D) : Option (D) :=
  (ifO (orO ((((some value1).map fun d => PyData.bool (isTy "tuple" d)).bind asT).map (!·)) (orO ((b2 dNe (C1 dLen (some value1)) (some (PyData.int 2))).bind asB) (((C1 m_is_integer (b2 dIx (some value1) (some (PyData.int 0)))).bind asT).map (!·)))) (some (PyData.bool false)) ((some value1).bind fun d => un2 d fun n2 ties3 => (ifO (orO (((chainO dLe dLe (some (PyData.int 1)) (some n2) (some (PyData.int 12))).bind asB).map (!·)) ((((some ties3).map fun d => PyData.bool (isTy "tuple" d)).bind asT).map (!·))) (some (PyData.bool false)) (andV (C1 dAll ((lcO ((some ties3).bind dItems) fun tie4 => turnO (some true) (C2 m_is_tie (some n2) (some tie4))).map PyData.list)) (C1 m_is_rising (some ties3))))))
@[irreducible] def m_line_of (word1 numbers2 : D) : Option (D) :=
  (b2 dAdd (joiO (some (PyData.str " ")) (b2 dAdd ((consO (some word1) (some [])).map PyData.list) ((lcO ((some numbers2).bind dItems) fun number3 => turnO (some true) (C1 dStr (some number3))).map PyData.list))) (some (PyData.str "\n")))
@[irreducible] def m_write_web (web1 dealing2 : D) : Option (D) :=
  ((some web1).bind fun d => un2 d fun n3 ties4 => ((b2 dAdd ((consO (C2 m_line_of (some (PyData.str "places")) ((consO (some n3) (some [])).map PyData.tuple)) (some [])).map PyData.list) ((lcO ((some ties4).bind dItems) fun tie6 => turnO (some true) (C2 m_line_of (some (PyData.str "tie")) (some tie6))).map PyData.list)).bind fun lines5 => (joiO (some (PyData.str "")) (b2 dAdd (some lines5) ((ifO ((b2 (dIsN true) (some dealing2) (some PyData.none)).bind asB) (consO (C2 m_line_of (some (PyData.str "parts")) (some dealing2)) (some [])) (some [])).map PyData.list)))))
@[irreducible] def m_number_of (word1 : D) : Option (D) :=
  (ifO (orO (((chainO dLe dLe (some (PyData.int 1)) (C1 dLenX (some word1)) (some (PyData.int 2))).bind asB).map (!·)) ((C1 dAny ((lcO ((some word1).bind dSigns) fun sign2 => turnO (some true) (b2 dNotInX (some sign2) (some (PyData.str "0123456789")))).map PyData.list)).bind asT)) (some PyData.none) (ifO (orO ((b2 dEq (some word1) (some (PyData.str "0"))).bind asB) ((b2 dNe (b2 dIxX (some word1) (some (PyData.int 0))) (some (PyData.str "0"))).bind asB)) (C1 dIntX (some word1)) (some PyData.none)))
@[irreducible] def m_numbers_of (line1 word2 : D) : Option (D) :=
  (((splO (some line1) (some (PyData.str " "))).map PyData.list).bind fun words3 => ((C1 dTup ((lcO ((slO (some words3) ((some (PyData.int 1)).bind asI) (some none)).bind dItems) fun one5 => turnO (some true) (C1 m_number_of (some one5))).map PyData.list)).bind fun numbers4 => (ifO (andO ((b2 dEq (b2 dIx (some words3) (some (PyData.int 0))) (some word2)).bind asB) ((b2 (dIn true) (some PyData.none) (some numbers4)).bind asB)) (some numbers4) (some PyData.none))))
@[irreducible] def m_things_of (text1 : D) : Option (D) :=
  (((splO (some text1) (some (PyData.str "\n"))).map PyData.list).bind fun lines2 => ((C2 m_numbers_of (b2 dIx (some lines2) (some (PyData.int 0))) (some (PyData.str "places"))).bind fun first3 => (ifO (orO ((b2 dNe (b2 dIx (some lines2) ((some (PyData.int 1)).bind dNeg)) (some (PyData.str ""))).bind asB) (orO ((b2 (dIsN false) (some first3) (some PyData.none)).bind asB) ((b2 dNe (C1 dLen (some first3)) (some (PyData.int 1))).bind asB))) (some PyData.none) ((consD (slO (some lines2) ((some (PyData.int 1)).bind asI) (((some (PyData.int 1)).bind dNeg).bind asI)) (consD (some PyData.none) (some []))).bind (cel2 (fun c5 c7 => (onD (fun rest4 => (onD (fun dealing6 => (joinO (fun (s8 : D × D) => ((consO ((consO (b2 dIx (some first3) (some (PyData.int 0))) (consO (C1 dTup ((lcO ((some s8.1).bind dItems) fun line14 => turnO (some true) (C2 m_numbers_of (some line14) (some (PyData.str "tie")))).map PyData.list)) (some []))).map PyData.tuple) (consO (some s8.2) (some []))).map PyData.tuple)) fun kk9 => ifO (andO ((b2 dNe (some rest4) ((some []).map PyData.list)).bind asB) ((b2 dEq (b2 dIx ((splO (b2 dIx (some rest4) ((some (PyData.int 1)).bind dNeg)) (some (PyData.str " "))).map PyData.list) (some (PyData.int 0))) (some (PyData.str "parts"))).bind asB)) ((consD (C2 m_numbers_of (b2 dIx (some rest4) ((some (PyData.int 1)).bind dNeg)) (some (PyData.str "parts"))) (consD (slO (some rest4) (some none) (((some (PyData.int 1)).bind dNeg).bind asI)) (some []))).bind (cel2 (fun c11 c13 => (onD (fun dealing10 => (onD (fun rest12 => (ifO (orO ((b2 (dIsN false) (some dealing10) (some PyData.none)).bind asB) (orO ((b2 dNe (C1 dLen (some dealing10)) (b2 dIx (some first3) (some (PyData.int 0)))).bind asB) ((b2 dGt (C1 (dBest max) (b2 dAdd (some dealing10) ((consO (some (PyData.int 0)) (some [])).map PyData.tuple))) (some (PyData.int 11))).bind asB))) (some PyData.none) (kk9 (rest12, dealing10)))) c13)) c11)))) (kk9 (rest4, dealing6)))) c7)) c5)))))))
@[irreducible] def m_read_web (value1 : D) : Option (D) :=
  ((ifO (((some value1).map fun d => PyData.bool (isTy "str" d)).bind asT) (C1 m_things_of (some value1)) (some PyData.none)).bind fun found2 => (ifO (orO ((b2 (dIsN false) (some found2) (some PyData.none)).bind asB) (((C1 m_is_web (b2 dIx (some found2) (some (PyData.int 0)))).bind asT).map (!·))) none (some found2)))
@[irreducible] def m_is_text (value1 : D) : Option (D) :=
  ((C1 m_read_web (some value1)).bind fun _ => (some (PyData.bool true)))
@[irreducible] def m__law_text (web1 dealing2 : D) : Option (D) :=
  ((C2 dCatL ((consO (b2 dAdd (some (PyData.str "places ")) (C1 dStr (b2 dIx (some web1) (some (PyData.int 0))))) (some [])).map PyData.list) ((lcO ((b2 dIx (some web1) (some (PyData.int 1))).bind dItems) fun d => un2 d fun a4 b5 => turnO (some true) (b2 dAdd (b2 dAdd (b2 dAdd (some (PyData.str "tie ")) (C1 dStr (some a4))) (some (PyData.str " "))) (C1 dStr (some b5)))).map PyData.list)).bind fun lines3 => (joinO (fun (s6 : D) => (joiO (some (PyData.str "")) ((lcO ((some s6).bind dItems) fun line10 => turnO (some true) (b2 dAdd (some line10) (some (PyData.str "\n")))).map PyData.list))) fun kk7 => ifO ((b2 (dIsN true) (some dealing2) (some PyData.none)).bind asB) (appO lines3 (joiO (some (PyData.str " ")) ((C2 dCatL ((consO (some (PyData.str "parts")) (some [])).map PyData.list) ((lcO ((some dealing2).bind dItems) fun i8 => turnO (some true) (C1 dStr (some i8))).map PyData.list)).map PyData.list)) fun lines9 => (kk7 (PyData.list lines9))) (kk7 (PyData.list lines3))))
def m_law (q : D → Nat → Prop) : Nat → Prop :=
  ((lift (C1 (fun x => dRange [x]) (some (PyData.int 4)))) fun ds => forK (S := Unit) (fun s1 turn5 kk2 => ((ifM (lift ((b2 dLt (some turn5) (some (PyData.int 3))).bind asB)) (drawM (consM (lift (some (PyData.int 1))) (consM (lift (some (PyData.int 12))) nilM)) (G2 m__law_draw_web)) (appM (consM (op2 dAdd (lift (some (PyData.int 8))) (drawM (consM (lift (some (PyData.int 5))) nilM) (G1 m__law_take))) nilM) (F1 m__law_full))) fun web6 => ((ifM (bindM (op2 dGt (drawM (consM (lift (some (PyData.int 3))) nilM) (G1 m__law_take)) (lift (some (PyData.int 0)))) asB) (appM (consM (lstM (lcM (lift (C1 (fun x => dRange [x]) (b2 dIx (some web6) (some (PyData.int 0))))) fun place8 => turnM (lift (some true)) (drawM (consM (lift (some (PyData.int 12))) nilM) (G1 m__law_take)))) nilM) (F1 dTup)) (lift (some PyData.none))) fun dealing7 => ((lift (C2 m_write_web (some web6) (some dealing7))) fun text9 => (ifK (lift (orO (((C2 r__law_same (some text9) (C2 m__law_text (some web6) (some dealing7))).bind asT).map (!·)) ((b2 (dIsB true) (C1 m_is_text (some text9)) (some (PyData.bool true))).bind asB))) ((lift (some (PyData.bool false))) q) (ifK (lift (((C2 r__law_same (C1 m_read_web (some text9)) ((consO (some web6) (consO (some dealing7) (some []))).map PyData.tuple)).bind asT).map (!·))) ((lift (some (PyData.bool false))) q) (kk2 ()))))))) ds () fun s4 => ((lift (some (PyData.bool true))) q))
end Dl

set_option Elab.async false
set_option linter.all false
set_option autoImplicit false
set_option maxRecDepth 100000
set_option maxHeartbeats 4000000
namespace Dl
open PySem L2
def top (i : Nat) : Stmt := PySem.Challenge.pw_rootparts_k45_texts_both_ways.main.body.getD i (.Pass ⟨0, 0, 0, 0⟩)
abbrev s_is_integer : Stmt := top 5
abbrev s_is_place : Stmt := top 6
abbrev s_is_rising : Stmt := top 7
abbrev s_is_lot : Stmt := top 8
abbrev s_is_tie : Stmt := top 9
abbrev s_is_web : Stmt := top 10
abbrev s_line_of : Stmt := top 13
abbrev s_write_web : Stmt := top 14
abbrev s_number_of : Stmt := top 15
abbrev s_numbers_of : Stmt := top 16
abbrev s_things_of : Stmt := top 17
abbrev s_read_web : Stmt := top 18
abbrev s_is_text : Stmt := top 19
abbrev s__law_open : Stmt := top 21
abbrev s__law_spread : Stmt := top 22
abbrev s__law_take : Stmt := top 23
abbrev s__law_same : Stmt := top 24
abbrev s__law_draw_order : Stmt := top 25
abbrev s__law_web : Stmt := top 26
abbrev s__law_draw_web : Stmt := top 27
abbrev s__law_text : Stmt := top 28
abbrev s__law_full : Stmt := top 29
abbrev s_law : Stmt := top 30
structure Tp (K : PySem.W.Frag) (mg : Str → Option Value) where
  f_is_integer : Addr
  fd_is_integer : FuncData
  F_is_integer : Fun K "is_integer" "is_integer" s_is_integer f_is_integer fd_is_integer
  m_is_integer : mg "is_integer" = some (.ref f_is_integer)
  f_is_place : Addr
  fd_is_place : FuncData
  F_is_place : Fun K "is_place" "is_place" s_is_place f_is_place fd_is_place
  m_is_place : mg "is_place" = some (.ref f_is_place)
  f_is_rising : Addr
  fd_is_rising : FuncData
  F_is_rising : Fun K "is_rising" "is_rising" s_is_rising f_is_rising fd_is_rising
  m_is_rising : mg "is_rising" = some (.ref f_is_rising)
  f_is_lot : Addr
  fd_is_lot : FuncData
  F_is_lot : Fun K "is_lot" "is_lot" s_is_lot f_is_lot fd_is_lot
  m_is_lot : mg "is_lot" = some (.ref f_is_lot)
  f_is_tie : Addr
  fd_is_tie : FuncData
  F_is_tie : Fun K "is_tie" "is_tie" s_is_tie f_is_tie fd_is_tie
  m_is_tie : mg "is_tie" = some (.ref f_is_tie)
  f_is_web : Addr
  fd_is_web : FuncData
  F_is_web : Fun K "is_web" "is_web" s_is_web f_is_web fd_is_web
  m_is_web : mg "is_web" = some (.ref f_is_web)
  f_line_of : Addr
  fd_line_of : FuncData
  F_line_of : Fun K "line_of" "line_of" s_line_of f_line_of fd_line_of
  m_line_of : mg "line_of" = some (.ref f_line_of)
  f_write_web : Addr
  fd_write_web : FuncData
  F_write_web : Fun K "write_web" "write_web" s_write_web f_write_web fd_write_web
  m_write_web : mg "write_web" = some (.ref f_write_web)
  f_number_of : Addr
  fd_number_of : FuncData
  F_number_of : Fun K "number_of" "number_of" s_number_of f_number_of fd_number_of
  m_number_of : mg "number_of" = some (.ref f_number_of)
  f_numbers_of : Addr
  fd_numbers_of : FuncData
  F_numbers_of : Fun K "numbers_of" "numbers_of" s_numbers_of f_numbers_of fd_numbers_of
  m_numbers_of : mg "numbers_of" = some (.ref f_numbers_of)
  f_things_of : Addr
  fd_things_of : FuncData
  F_things_of : Fun K "things_of" "things_of" s_things_of f_things_of fd_things_of
  m_things_of : mg "things_of" = some (.ref f_things_of)
  f_read_web : Addr
  fd_read_web : FuncData
  F_read_web : Fun K "read_web" "read_web" s_read_web f_read_web fd_read_web
  m_read_web : mg "read_web" = some (.ref f_read_web)
  f_is_text : Addr
  fd_is_text : FuncData
  F_is_text : Fun K "is_text" "is_text" s_is_text f_is_text fd_is_text
  m_is_text : mg "is_text" = some (.ref f_is_text)
  f__law_open : Addr
  fd__law_open : FuncData
  F__law_open : Fun K "_law_open" "_law_open" s__law_open f__law_open fd__law_open
  m__law_open : mg "_law_open" = some (.ref f__law_open)
  f__law_spread : Addr
  fd__law_spread : FuncData
  F__law_spread : Fun K "_law_spread" "_law_spread" s__law_spread f__law_spread fd__law_spread
  m__law_spread : mg "_law_spread" = some (.ref f__law_spread)
  f__law_take : Addr
  fd__law_take : FuncData
  F__law_take : Fun K "_law_take" "_law_take" s__law_take f__law_take fd__law_take
  m__law_take : mg "_law_take" = some (.ref f__law_take)
  f__law_same : Addr
  fd__law_same : FuncData
  F__law_same : Fun K "_law_same" "_law_same" s__law_same f__law_same fd__law_same
  m__law_same : mg "_law_same" = some (.ref f__law_same)
  f__law_draw_order : Addr
  fd__law_draw_order : FuncData
  F__law_draw_order : Fun K "_law_draw_order" "_law_draw_order" s__law_draw_order f__law_draw_order fd__law_draw_order
  m__law_draw_order : mg "_law_draw_order" = some (.ref f__law_draw_order)
  f__law_web : Addr
  fd__law_web : FuncData
  F__law_web : Fun K "_law_web" "_law_web" s__law_web f__law_web fd__law_web
  m__law_web : mg "_law_web" = some (.ref f__law_web)
  f__law_draw_web : Addr
  fd__law_draw_web : FuncData
  F__law_draw_web : Fun K "_law_draw_web" "_law_draw_web" s__law_draw_web f__law_draw_web fd__law_draw_web
  m__law_draw_web : mg "_law_draw_web" = some (.ref f__law_draw_web)
  f__law_text : Addr
  fd__law_text : FuncData
  F__law_text : Fun K "_law_text" "_law_text" s__law_text f__law_text fd__law_text
  m__law_text : mg "_law_text" = some (.ref f__law_text)
  f__law_full : Addr
  fd__law_full : FuncData
  F__law_full : Fun K "_law_full" "_law_full" s__law_full f__law_full fd__law_full
  m__law_full : mg "_law_full" = some (.ref f__law_full)
  f_law : Addr
  fd_law : FuncData
  F_law : Fun K "law" "law" s_law f_law fd_law
  m_law : mg "law" = some (.ref f_law)
  z_ValueError : mg "ValueError" = none
  z_all : mg "all" = none
  z_any : mg "any" = none
  z_bool : mg "bool" = none
  z_enumerate : mg "enumerate" = none
  z_int : mg "int" = none
  z_isinstance : mg "isinstance" = none
  z_len : mg "len" = none
  z_list : mg "list" = none
  z_max : mg "max" = none
  z_min : mg "min" = none
  z_range : mg "range" = none
  z_set : mg "set" = none
  z_sorted : mg "sorted" = none
  z_str : mg "str" = none
  z_super : mg "super" = none
  z_tuple : mg "tuple" = none
  z_zip : mg "zip" = none
  t_MOST_PLACES : Tok
  g_MOST_PLACES : mg "MOST_PLACES" = some (.int 12 t_MOST_PLACES)
  t_MOST_NUMBER : Tok
  g_MOST_NUMBER : mg "MOST_NUMBER" = some (.int 11 t_MOST_NUMBER)
section
variable {P : Program} {w : World} {K : PySem.W.Frag} {mg : Str → Option Value} {base : Heap}
theorem ok_is_integer (T : Tp K mg) : Kn P w K mg base "is_integer" 1 (spR .dat 1 (F1 m_is_integer)) := by
  refine kn_dat (N := ["value"]) (ps := ["value"]) T.F_is_integer T.m_is_integer (T.F_is_integer.binds (ps := ["value"]) fun _ _ _ _ _ _ us hl => match us, hl with | [_], _ => rfl) ⟨rfl, rfl, rfl, by decide +kernel, rfl, by decide +kernel, by decide +kernel⟩ rfl fun cdv A outer s H E B ds hl => ?_
  match ds, hl with
  | [value1], _ =>
    show JKE _ _ _ [.dat value1] _ _ (m_is_integer value1)
    unfold m_is_integer
    exact (jke_ret (je_and (je_isi (je_var 0) T.z_isinstance T.z_int rfl rfl) (je_one (je_not (je_isi (je_var 0) T.z_isinstance T.z_bool rfl rfl)))))
theorem ok_is_place (T : Tp K mg) : Kn P w K mg base "is_place" 2 (spR .dat 2 (F2 m_is_place)) := by
  refine kn_dat (N := ["n", "value"]) (ps := ["n", "value"]) T.F_is_place T.m_is_place (T.F_is_place.binds (ps := ["n", "value"]) fun _ _ _ _ _ _ us hl => match us, hl with | [_, _], _ => rfl) ⟨rfl, rfl, rfl, by decide +kernel, rfl, by decide +kernel, by decide +kernel⟩ rfl fun cdv A outer s H E B ds hl => ?_
  match ds, hl with
  | [n1, value2], _ =>
    show JKE _ _ _ [.dat n1, .dat value2] _ _ (m_is_place n1 value2)
    unfold m_is_place
    exact (jke_ret (je_and (JM.by (c1_eq _ _) (je_kn (Kn.mono (ok_is_integer T)) B (jae_cons (je_var 1) jae_nil))) (je_one (je_chain op_le (or_lt B.u0) od_le od_lt je_int (je_var 1) (je_var 0)))))
theorem ok_is_rising (T : Tp K mg) : Kn P w K mg base "is_rising" 1 (spR .dat 1 (F1 m_is_rising)) := by
  refine kn_dat (N := ["values", "one", "other"]) (ps := ["values"]) T.F_is_rising T.m_is_rising (T.F_is_rising.binds (ps := ["values"]) fun _ _ _ _ _ _ us hl => match us, hl with | [_], _ => rfl) ⟨rfl, rfl, rfl, by decide +kernel, rfl, by decide +kernel, by decide +kernel⟩ rfl fun cdv A outer s H E B ds hl => ?_
  match ds, hl with
  | [values1], _ =>
    show JKE _ _ _ [.dat values1, .no, .no] _ _ (m_is_rising values1)
    unfold m_is_rising
    exact (jke_ret (JM.by (c1_eq _ _) (je_callB (cr_all B.hc) cd_all T.z_all rfl (jae_cons (JLE.je (jle_lc2 (i1 := 1) (i2 := 2) (own := [("one", 1), ("other", 2)]) B (jie_zipS T.z_zip (je_slice (je_var 0) jo_none (jo_some (je_neg je_int))) (je_slice (je_var 0) (jo_some je_int) jo_none)) (blkOk_by (by rfl)) (fun _ _ _ _ _ => jg_tup B.hc (jgs_cons (jg_name B.nd) (jgs_cons (jg_name B.nd) jgs_nil))) (fun one2 other3 => okTE_nil) (fun one2 other3 => fun _ _ _ _ _ => (je_cmp (or_lt B.u0) od_lt (je_var 1) (je_var 2) rfl)))) jae_nil))))
theorem ok_is_lot (T : Tp K mg) : Kn P w K mg base "is_lot" 3 (spR .dat 2 (F2 m_is_lot)) := by
  refine kn_dat (N := ["n", "value", "place"]) (ps := ["n", "value"]) T.F_is_lot T.m_is_lot (T.F_is_lot.binds (ps := ["n", "value"]) fun _ _ _ _ _ _ us hl => match us, hl with | [_, _], _ => rfl) ⟨rfl, rfl, rfl, by decide +kernel, rfl, by decide +kernel, by decide +kernel⟩ rfl fun cdv A outer s H E B ds hl => ?_
  match ds, hl with
  | [n1, value2], _ =>
    show JKE _ _ _ [.dat n1, .dat value2, .no] _ _ (m_is_lot n1 value2)
    unfold m_is_lot
    exact (jke_ret (je_and (je_isi (je_var 1) T.z_isinstance T.z_tuple rfl rfl) (je_and (JM.by (c1_eq _ _) (je_callB (cr_all B.hc) cd_all T.z_all rfl (jae_cons (JLE.je (jle_lc1 (i := 2) (own := [("place", 2)]) B (jie_seq (je_var 1)) (blkOk_by (by rfl)) (fun _ _ _ _ _ => jg_name B.nd) (fun place3 => okTE_nil) (fun place3 => fun _ _ _ _ _ => (JM.by (c2_eq _ _ _) (je_kn (Kn.mono (ok_is_place T)) (B.blk _ _ _ _ _) (jae_cons (je_var 0) (jae_cons (je_var 2) jae_nil))))))) jae_nil))) (je_one (JM.by (c1_eq _ _) (je_kn (Kn.mono (ok_is_rising T)) B (jae_cons (je_var 1) jae_nil)))))))
theorem ok_is_tie (T : Tp K mg) : Kn P w K mg base "is_tie" 4 (spR .dat 2 (F2 m_is_tie)) := by
  refine kn_dat (N := ["n", "value"]) (ps := ["n", "value"]) T.F_is_tie T.m_is_tie (T.F_is_tie.binds (ps := ["n", "value"]) fun _ _ _ _ _ _ us hl => match us, hl with | [_, _], _ => rfl) ⟨rfl, rfl, rfl, by decide +kernel, rfl, by decide +kernel, by decide +kernel⟩ rfl fun cdv A outer s H E B ds hl => ?_
  match ds, hl with
  | [n1, value2], _ =>
    show JKE _ _ _ [.dat n1, .dat value2] _ _ (m_is_tie n1 value2)
    unfold m_is_tie
    exact (jke_ret (je_and (JM.by (c2_eq _ _ _) (je_kn (Kn.mono (ok_is_lot T)) B (jae_cons (je_var 0) (jae_cons (je_var 1) jae_nil)))) (je_one (je_cmp (or_eq B.u64) od_eq (JM.by (c1_eq _ _) (je_callB call_len_seq cd_len T.z_len rfl (jae_cons (je_var 1) jae_nil))) je_int rfl))))
theorem ok_is_web (T : Tp K mg) : Kn P w K mg base "is_web" 5 (spR .dat 1 (F1 m_is_web)) := by
  refine kn_dat (N := ["value", "n", "ties", "tie"]) (ps := ["value"]) T.F_is_web T.m_is_web (T.F_is_web.binds (ps := ["value"]) fun _ _ _ _ _ _ us hl => match us, hl with | [_], _ => rfl) ⟨rfl, rfl, rfl, by decide +kernel, rfl, by decide +kernel, by decide +kernel⟩ rfl fun cdv A outer s H E B ds hl => ?_
  match ds, hl with
  | [value1], _ =>
    show JKE _ _ _ [.dat value1, .no, .no, .no] _ _ (m_is_web value1)
    unfold m_is_web
    exact (jke_if (JW.jt (jwe_or (jte_not (jte_tru (je_isi (je_var 0) T.z_isinstance T.z_tuple rfl rfl))) (jwe_or (jte_cmp (or_ne B.u64) od_ne (JM.by (c1_eq _ _) (je_callB call_len_seq cd_len T.z_len rfl (jae_cons (je_var 0) jae_nil))) je_int rfl) (jwe_or1 (jte_not (jte_tru (JM.by (c1_eq _ _) (je_kn (Kn.mono (ok_is_integer T)) B (jae_cons (je_ix B.u65 (je_var 0) je_int) jae_nil))))))))) (jke_ret je_bl) (jke_nil (jke_un2 (i := 1) (j := 2) (je_var 0) (jg_tup B.hc (jgs_cons (jg_name B.nd) (jgs_cons (jg_name B.nd) jgs_nil))) fun n2 ties3 => (jke_if (JW.jt (jwe_or (jte_not (jte_chain op_le op_le od_le od_le je_int (je_var 1) (je_glob T.g_MOST_PLACES))) (jwe_or1 (jte_not (jte_tru (je_isi (je_var 2) T.z_isinstance T.z_tuple rfl rfl)))))) (jke_ret je_bl) (jke_nil (jke_ret (je_and (JM.by (c1_eq _ _) (je_callB (cr_all B.hc) cd_all T.z_all rfl (jae_cons (JLE.je (jle_lc1 (i := 3) (own := [("tie", 3)]) B (jie_seq (je_var 2)) (blkOk_by (by rfl)) (fun _ _ _ _ _ => jg_name B.nd) (fun tie4 => okTE_nil) (fun tie4 => fun _ _ _ _ _ => (JM.by (c2_eq _ _ _) (je_kn (Kn.mono (ok_is_tie T)) (B.blk _ _ _ _ _) (jae_cons (je_var 1) (jae_cons (je_var 3) jae_nil))))))) jae_nil))) (je_one (JM.by (c1_eq _ _) (je_kn (Kn.mono (ok_is_rising T)) B (jae_cons (je_var 2) jae_nil)))))))))))
theorem ok_line_of (T : Tp K mg) : Kn P w K mg base "line_of" 1 (spR .dat 2 (F2 m_line_of)) := by
  refine kn_dat (N := ["word", "numbers", "number"]) (ps := ["word", "numbers"]) T.F_line_of T.m_line_of (T.F_line_of.binds (ps := ["word", "numbers"]) fun _ _ _ _ _ _ us hl => match us, hl with | [_, _], _ => rfl) ⟨rfl, rfl, rfl, by decide +kernel, rfl, by decide +kernel, by decide +kernel⟩ rfl fun cdv A outer s H E B ds hl => ?_
  match ds, hl with
  | [word1, numbers2], _ =>
    show JKE _ _ _ [.dat word1, .dat numbers2, .no] _ _ (m_line_of word1 numbers2)
    unfold m_line_of
    exact (jke_ret (je_op or_add od_add (je_join je_str (je_op or_add od_add (JLE.je (jle_lst (jae_cons (je_var 0) jae_nil))) (JLE.je (jle_lc1 (i := 2) (own := [("number", 2)]) B (jie_seq (je_var 1)) (blkOk_by (by rfl)) (fun _ _ _ _ _ => jg_name B.nd) (fun number3 => okTE_nil) (fun number3 => fun _ _ _ _ _ => (JM.by (c1_eq _ _) (je_callTy call_str_int cd_str T.z_str rfl (jae_cons (je_var 2) jae_nil)))))))) je_str))
theorem ok_write_web (T : Tp K mg) : Kn P w K mg base "write_web" 2 (spR .dat 2 (F2 m_write_web)) := by
  refine kn_dat (N := ["web", "dealing", "lines", "n", "ties", "tie"]) (ps := ["web", "dealing"]) T.F_write_web T.m_write_web (T.F_write_web.binds (ps := ["web", "dealing"]) fun _ _ _ _ _ _ us hl => match us, hl with | [_, _], _ => rfl) ⟨rfl, rfl, rfl, by decide +kernel, rfl, by decide +kernel, by decide +kernel⟩ rfl fun cdv A outer s H E B ds hl => ?_
  match ds, hl with
  | [web1, dealing2], _ =>
    show JKE _ _ _ [.dat web1, .dat dealing2, .no, .no, .no, .no] _ _ (m_write_web web1 dealing2)
    unfold m_write_web
    exact (jke_un2 (i := 3) (j := 4) (je_var 0) (jg_tup B.hc (jgs_cons (jg_name B.nd) (jgs_cons (jg_name B.nd) jgs_nil))) fun n3 ties4 => (jke_st (i := 2) (st_set (je_op or_add od_add (JLE.je (jle_lst (jae_cons (JM.by (c2_eq _ _ _) (je_kn (Kn.mono (ok_line_of T)) B (jae_cons je_str (jae_cons (je_tup (jae_cons (je_var 3) jae_nil)) jae_nil)))) jae_nil))) (JLE.je (jle_lc1 (i := 5) (own := [("tie", 5)]) B (jie_seq (je_var 4)) (blkOk_by (by rfl)) (fun _ _ _ _ _ => jg_name B.nd) (fun tie6 => okTE_nil) (fun tie6 => fun _ _ _ _ _ => (JM.by (c2_eq _ _ _) (je_kn (Kn.mono (ok_line_of T)) (B.blk _ _ _ _ _) (jae_cons je_str (jae_cons (je_var 5) jae_nil)))))))) B.nd) fun lines5 => (jke_ret (je_join je_str (je_op or_add od_add (je_var 2) (JLE.je (jle_if (jte_cmp op_notN od_notN (je_var 1) je_non rfl) (jle_lst (jae_cons (JM.by (c2_eq _ _ _) (je_kn (Kn.mono (ok_line_of T)) B (jae_cons je_str (jae_cons (je_var 1) jae_nil)))) jae_nil)) (jle_lst jae_nil))))))))
theorem ok_number_of (T : Tp K mg) : Kn P w K mg base "number_of" 1 (spR .dat 1 (F1 m_number_of)) := by
  refine kn_dat (N := ["word", "sign"]) (ps := ["word"]) T.F_number_of T.m_number_of (T.F_number_of.binds (ps := ["word"]) fun _ _ _ _ _ _ us hl => match us, hl with | [_], _ => rfl) ⟨rfl, rfl, rfl, by decide +kernel, rfl, by decide +kernel, by decide +kernel⟩ rfl fun cdv A outer s H E B ds hl => ?_
  match ds, hl with
  | [word1], _ =>
    show JKE _ _ _ [.dat word1, .no] _ _ (m_number_of word1)
    unfold m_number_of
    exact (jke_if (JW.jt (jwe_or (jte_not (jte_chain op_le op_le od_le od_le je_int (JM.by (c1_eq _ _) (je_callB call_len_str cd_lenX T.z_len rfl (jae_cons (je_var 0) jae_nil))) je_int)) (jwe_or1 (jte_tru (JM.by (c1_eq _ _) (je_callB (cr_any B.hc) cd_any T.z_any rfl (jae_cons (JLE.je (jle_lc1 (i := 1) (own := [("sign", 1)]) B (jie_signs (je_var 0)) (blkOk_by (by rfl)) (fun _ _ _ _ _ => jg_name B.nd) (fun sign2 => okTE_nil) (fun sign2 => fun _ _ _ _ _ => (je_cmp op_notIn_str od_notInX (je_var 1) je_str rfl)))) jae_nil))))))) (jke_ret je_non) (jke_nil (jke_ret (je_if (JW.jt (jwe_or (jte_cmp (or_eq B.u64) od_eq (je_var 0) je_str rfl) (jwe_or1 (jte_cmp (or_ne B.u64) od_ne (je_ixX (je_var 0) je_int) je_str rfl)))) (JM.by (c1_eq _ _) (je_callTy call_int_str cd_intX T.z_int rfl (jae_cons (je_var 0) jae_nil))) je_non))))
theorem ok_numbers_of (T : Tp K mg) : Kn P w K mg base "numbers_of" 2 (spR .dat 2 (F2 m_numbers_of)) := by
  refine kn_dat (N := ["line", "word", "words", "numbers", "one"]) (ps := ["line", "word"]) T.F_numbers_of T.m_numbers_of (T.F_numbers_of.binds (ps := ["line", "word"]) fun _ _ _ _ _ _ us hl => match us, hl with | [_, _], _ => rfl) ⟨rfl, rfl, rfl, by decide +kernel, rfl, by decide +kernel, by decide +kernel⟩ rfl fun cdv A outer s H E B ds hl => ?_
  match ds, hl with
  | [line1, word2], _ =>
    show JKE _ _ _ [.dat line1, .dat word2, .no, .no, .no] _ _ (m_numbers_of line1 word2)
    unfold m_numbers_of
    exact (jke_st (i := 2) (ste_shr (st_setL (jle_split (je_var 0) je_str) B.nd)) fun words3 => (jke_st (i := 3) (st_set (JM.by (c1_eq _ _) (je_callTy call_tupF cd_tuple T.z_tuple rfl (jae_cons (JLE.je (jle_lc1 (i := 4) (own := [("one", 4)]) B (jie_seq (je_slice (je_var 2) (jo_some je_int) jo_none)) (blkOk_by (by rfl)) (fun _ _ _ _ _ => jg_name B.nd) (fun one5 => okTE_nil) (fun one5 => fun _ _ _ _ _ => (JM.by (c1_eq _ _) (je_kn (Kn.mono (ok_number_of T)) (B.blk _ _ _ _ _) (jae_cons (je_var 4) jae_nil)))))) jae_nil))) B.nd) fun numbers4 => (jke_ret (je_if (JW.jt (jwe_and (jte_cmp (or_eq B.u64) od_eq (je_ix B.u65 (je_var 2) je_int) (je_var 1) rfl) (jwe_and1 (jte_cmp (or_notIn B.u65) od_in je_non (je_var 3) rfl)))) (je_var 3) je_non))))
theorem ok_things_of (T : Tp K mg) : Kn P w K mg base "things_of" 3 (spR .dat 1 (F1 m_things_of)) := by
  refine kn_dat (N := ["text", "lines", "first", "rest", "dealing", "line"]) (ps := ["text"]) T.F_things_of T.m_things_of (T.F_things_of.binds (ps := ["text"]) fun _ _ _ _ _ _ us hl => match us, hl with | [_], _ => rfl) ⟨rfl, rfl, rfl, by decide +kernel, rfl, by decide +kernel, by decide +kernel⟩ rfl fun cdv A outer s H E B ds hl => ?_
  match ds, hl with
  | [text1], _ =>
    show JKE _ _ _ [.dat text1, .no, .no, .no, .no, .no] _ _ (m_things_of text1)
    unfold m_things_of
    exact (jke_st (i := 1) (ste_shr (st_setL (jle_split (je_var 0) je_str) B.nd)) fun lines2 => (jke_st (i := 2) (st_set (JM.by (c2_eq _ _ _) (je_kn (Kn.mono (ok_numbers_of T)) B (jae_cons (je_ix B.u65 (je_var 1) je_int) (jae_cons je_str jae_nil)))) B.nd) fun first3 => (jke_if (JW.jt (jwe_or (jte_cmp (or_ne B.u64) od_ne (je_ix B.u65 (je_var 1) (je_neg je_int)) je_str rfl) (jwe_or (jte_cmp op_isN od_isN (je_var 2) je_non rfl) (jwe_or1 (jte_cmp (or_ne B.u64) od_ne (JM.by (c1_eq _ _) (je_callB call_len_seq cd_len T.z_len rfl (jae_cons (je_var 2) jae_nil))) je_int rfl))))) (jke_ret je_non) (jke_nil (jke_par (i := 3) (j := 4) B (jce_dat (je_slice (je_var 1) (jo_some je_int) (jo_some (je_neg je_int))) (jce_dat je_non jce_nil)) (fun c5 c7 => (jke_onD (f := fun c => [.dat text1, .dat lines2, .dat first3, c, c7, .no]) (fun rest4 => (jke_onD (f := fun c => [.dat text1, .dat lines2, .dat first3, .dat rest4, c, .no]) (fun dealing6 => (jke_ifJ (env := fun (s8 : D × D) => [.dat text1, .dat lines2, .dat first3, .dat s8.1, .dat s8.2, .no]) (JW.jt (jwe_and (jte_cmp (or_ne B.u64) od_ne (je_var 3) (JLE.je (jle_lst jae_nil)) rfl) (jwe_and1 (jte_cmp (or_eq B.u64) od_eq (je_ix B.u65 (JLE.je (jle_split (je_ix B.u65 (je_var 3) (je_neg je_int)) je_str)) je_int) je_str rfl)))) (fun kk9 => (jke_par (i := 4) (j := 3) B (jce_dat (JM.by (c2_eq _ _ _) (je_kn (Kn.mono (ok_numbers_of T)) B (jae_cons (je_ix B.u65 (je_var 3) (je_neg je_int)) (jae_cons je_str jae_nil)))) (jce_dat (je_slice (je_var 3) jo_none (jo_some (je_neg je_int))) jce_nil)) (fun c11 c13 => (jke_onD (f := fun c => [.dat text1, .dat lines2, .dat first3, c13, c, .no]) (fun dealing10 => (jke_onD (f := fun c => [.dat text1, .dat lines2, .dat first3, c, .dat dealing10, .no]) (fun rest12 => (jke_if (JW.jt (jwe_or (jte_cmp op_isN od_isN (je_var 4) je_non rfl) (jwe_or (jte_cmp (or_ne B.u64) od_ne (JM.by (c1_eq _ _) (je_callB call_len_seq cd_len T.z_len rfl (jae_cons (je_var 4) jae_nil))) (je_ix B.u65 (je_var 2) je_int) rfl) (jwe_or1 (jte_cmp op_gt od_gt (JM.by (c1_eq _ _) (je_callB (cr_maxA B.hc B.u64) cd_best T.z_max rfl (jae_cons (je_op or_add od_add (je_var 4) (je_tup (jae_cons je_int jae_nil))) jae_nil))) (je_glob T.g_MOST_NUMBER) rfl))))) (jke_ret je_non) (jke_nil (jke_nil (wk_ex (rest12, dealing10) (.same (.same (.same (.same (.same (.no .nil))))))))))))))))) (fun kk9 => (jke_nil (wk_ex (rest4, dealing6) (.same (.same (.same (.same (.same (.no .nil))))))))) (fun s8 => (jke_ret (je_tup (jae_cons (je_tup (jae_cons (je_ix B.u65 (je_var 2) je_int) (jae_cons (JM.by (c1_eq _ _) (je_callTy call_tupF cd_tuple T.z_tuple rfl (jae_cons (JLE.je (jle_lc1 (i := 5) (own := [("line", 5)]) B (jie_seq (je_var 3)) (blkOk_by (by rfl)) (fun _ _ _ _ _ => jg_name B.nd) (fun line14 => okTE_nil) (fun line14 => fun _ _ _ _ _ => (JM.by (c2_eq _ _ _) (je_kn (Kn.mono (ok_numbers_of T)) (B.blk _ _ _ _ _) (jae_cons (je_var 5) (jae_cons je_str jae_nil))))))) jae_nil))) jae_nil))) (jae_cons (je_var 4) jae_nil))))))))))))))))
theorem ok_read_web (T : Tp K mg) : Kn P w K mg base "read_web" 6 (spR .dat 1 (F1 m_read_web)) := by
  refine kn_dat (N := ["value", "found"]) (ps := ["value"]) T.F_read_web T.m_read_web (T.F_read_web.binds (ps := ["value"]) fun _ _ _ _ _ _ us hl => match us, hl with | [_], _ => rfl) ⟨rfl, rfl, rfl, by decide +kernel, rfl, by decide +kernel, by decide +kernel⟩ rfl fun cdv A outer s H E B ds hl => ?_
  match ds, hl with
  | [value1], _ =>
    show JKE _ _ _ [.dat value1, .no] _ _ (m_read_web value1)
    unfold m_read_web
    exact (jke_st (i := 1) (st_set (je_if (jte_tru (je_isi (je_var 0) T.z_isinstance T.z_str rfl rfl)) (JM.by (c1_eq _ _) (je_kn (Kn.mono (ok_things_of T)) B (jae_cons (je_var 0) jae_nil))) je_non) B.nd) fun found2 => (jke_if (JW.jt (jwe_or (jte_cmp op_isN od_isN (je_var 1) je_non rfl) (jwe_or1 (jte_not (jte_tru (JM.by (c1_eq _ _) (je_kn (Kn.mono (ok_is_web T)) B (jae_cons (je_ix B.u65 (je_var 1) je_int) jae_nil)))))))) jke_never (jke_nil (jke_ret (je_var 1)))))
theorem ok_is_text (T : Tp K mg) : Kn P w K mg base "is_text" 7 (spR .dat 1 (F1 m_is_text)) := by
  refine kn_dat (N := ["value"]) (ps := ["value"]) T.F_is_text T.m_is_text (T.F_is_text.binds (ps := ["value"]) fun _ _ _ _ _ _ us hl => match us, hl with | [_], _ => rfl) ⟨rfl, rfl, rfl, by decide +kernel, rfl, by decide +kernel, by decide +kernel⟩ rfl fun cdv A outer s H E B ds hl => ?_
  match ds, hl with
  | [value1], _ =>
    show JKE _ _ _ [.dat value1] _ _ (m_is_text value1)
    unfold m_is_text
    exact (jke_tryE (JM.by (c1_eq _ _) (je_kn (Kn.mono (ok_read_web T)) B.nox (jae_cons (je_var 0) jae_nil))) (jke_ret je_bl))
theorem ok__law_open (T : Tp K mg) : Kn P w K mg base "_law_open" 1 (spOpen K m__law_open) := by
  refine kn_open (N := ["script", "cells", "k", "cell"]) (ps := ["script"]) T.F__law_open T.m__law_open (T.F__law_open.binds (ps := ["script"]) fun _ _ _ _ _ _ us hl => match us, hl with | [_], _ => rfl) ⟨rfl, rfl, rfl, by decide +kernel, rfl, by decide +kernel, by decide +kernel⟩ rfl fun cdv A outer s H E B a ns => ?_
  show JKE _ _ _ [.raw (.ref a), .no, .no, .no] _ _ (m__law_open ns)
  exact (jke_stL (i := 1) (st_setL (JL.by (c1_eq _ _) (jle_callTy call_list_of cd_list T.z_list rfl (jae_cons (je_scr 0 jo_none (jo_some je_int)) jae_nil))) B.nd) fun cells1 => (jke_for2 (i := 2) (j := 3) (env := fun (s2 : List D) => [.raw (.ref a), .own s2, .no, .no]) (s0 := cells1) B (jie_enum T.z_enumerate (je_scr 0 (jo_some je_int) (jo_some je_int))) (jg_tup B.hc (jgs_cons (jg_name B.nd) (jgs_cons (jg_name B.nd) jgs_nil))) (.same (.same (.no (.no .nil)))) (fun s2 k6 cell7 kk3 => (jke_setI 1 (JE.lend (je_op or_add od_add (je_ix B.u65 (je_var 1) (je_op op_mod od_mod (JM.by (c1_eq _ _) (je_callTy call_int1 cd_int T.z_int rfl (jae_cons (je_var 2) jae_nil))) je_int)) (je_var 3))) (je_op op_mod od_mod (JM.by (c1_eq _ _) (je_callTy call_int1 cd_int T.z_int rfl (jae_cons (je_var 2) jae_nil))) je_int) fun cells8 => (jke_nil (wk_ex cells8 (.same (.same (.no (.no .nil)))))))) (fun s5 => (jke_give 1 (jke_retL (jle_lst (jae_cons (je_var 1) (jae_cons je_int (jae_cons je_int jae_nil)))))))))
theorem ok__law_spread (T : Tp K mg) : Kn P w K mg base "_law_spread" 1 (spR .dat 2 (F2 m__law_spread)) := by
  refine kn_dat (N := ["cell", "at", "primes", "one", "two", "three"]) (ps := ["cell", "at"]) T.F__law_spread T.m__law_spread (T.F__law_spread.binds (ps := ["cell", "at"]) fun _ _ _ _ _ _ us hl => match us, hl with | [_, _], _ => rfl) ⟨rfl, rfl, rfl, by decide +kernel, rfl, by decide +kernel, by decide +kernel⟩ rfl fun cdv A outer s H E B ds hl => ?_
  match ds, hl with
  | [cell1, at2], _ =>
    show JKE _ _ _ [.dat cell1, .dat at2, .no, .no, .no, .no] _ _ (m__law_spread cell1 at2)
    unfold m__law_spread
    exact (jke_if (jte_cmp op_ge od_ge (je_var 0) (je_op op_pow od_pow je_int je_int) rfl) (jke_ret (je_var 0)) (jke_nil (jke_st (i := 2) (ste_shr (st_setL (jle_lst (jae_cons je_int (jae_cons je_int (jae_cons je_int (jae_cons je_int (jae_cons je_int (jae_cons je_int (jae_cons je_int (jae_cons je_int jae_nil))))))))) B.nd)) fun primes3 => (jke_st (i := 2) (st_set (je_op or_add od_add (je_var 2) (JLE.je (jle_lst (jae_cons je_int (jae_cons je_int (jae_cons je_int (jae_cons je_int (jae_cons je_int jae_nil)))))))) B.nd) fun primes4 => (jke_st (i := 3) (st_set (je_op or_add od_add (je_op or_add od_add (je_op op_mulW od_mul (je_op op_mod od_mod (JM.by (c1_eq _ _) (je_callTy call_int1 cd_int T.z_int rfl (jae_cons (je_var 0) jae_nil))) je_int) (je_op or_add od_add (je_op op_mulW od_mul je_int (je_var 1)) je_int)) (je_op op_mulW od_mul (je_var 1) je_int)) je_int) B.nd) fun one5 => (jke_st (i := 3) (st_set (je_op op_mod od_mod (JM.by (c1_eq _ _) (je_callTy call_int1 cd_int T.z_int rfl (jae_cons (je_op op_pow od_pow (je_var 3) je_int) jae_nil))) (je_ix B.u65 (je_var 2) (je_op op_mod od_mod (JM.by (c1_eq _ _) (je_callTy call_int1 cd_int T.z_int rfl (jae_cons (je_var 1) jae_nil))) je_int))) B.nd) fun one6 => (jke_st (i := 4) (st_set (je_op op_mod od_mod (JM.by (c1_eq _ _) (je_callTy call_int1 cd_int T.z_int rfl (jae_cons (je_op op_pow od_pow (je_op or_add od_add (je_op or_add od_add (je_op op_mulW od_mul (je_var 3) (je_op or_add od_add (je_var 1) je_int)) (je_op op_mod od_mod (JM.by (c1_eq _ _) (je_callTy call_int1 cd_int T.z_int rfl (jae_cons (je_var 0) jae_nil))) je_int)) je_int) je_int) jae_nil))) (je_ix B.u65 (je_var 2) (je_op op_mod od_mod (JM.by (c1_eq _ _) (je_callTy call_int1 cd_int T.z_int rfl (jae_cons (je_op or_add od_add (je_var 1) je_int) jae_nil))) je_int))) B.nd) fun two7 => (jke_st (i := 5) (st_set (je_op op_mod od_mod (JM.by (c1_eq _ _) (je_callTy call_int1 cd_int T.z_int rfl (jae_cons (je_op op_pow od_pow (je_op or_add od_add (je_op or_add od_add (je_var 4) (je_op op_mod od_mod (JM.by (c1_eq _ _) (je_callTy call_int1 cd_int T.z_int rfl (jae_cons (je_var 3) jae_nil))) je_int)) (je_var 1)) je_int) jae_nil))) (je_ix B.u65 (je_var 2) (je_op op_mod od_mod (JM.by (c1_eq _ _) (je_callTy call_int1 cd_int T.z_int rfl (jae_cons (je_op or_add od_add (je_var 1) je_int) jae_nil))) je_int))) B.nd) fun three8 => (jke_ret (je_op or_add od_add (je_op op_mulW od_mul (je_op or_add od_add (je_op op_mulW od_mul (je_var 3) je_int) (je_var 4)) je_int) (je_var 5)))))))))))
theorem ok__law_take (T : Tp K mg) : Kn P w K mg base "_law_take" 2 (spM .dat 1 (G1 m__law_take)) := by
  refine kn_take (N := ["pen", "amount", "found", "at", "cell"]) (ps := ["pen", "amount"]) (F0 := b__law_take) T.F__law_take T.m__law_take (T.F__law_take.binds (ps := ["pen", "amount"]) fun _ _ _ _ _ _ us hl => match us, hl with | [_, _], _ => rfl) ⟨rfl, rfl, rfl, by decide +kernel, rfl, by decide +kernel, by decide +kernel⟩ rfl take_law fun cdv A outer s H E B pa ca cs amount1 q => ?_
  show JK _ _ _ [.raw (.ref pa), .dat amount1, .no, .no, .no] _ _ _ (b__law_take cs amount1 q)
  unfold b__law_take
  exact (jk_ifJM (env := fun (s2 : Unit) => [.raw (.ref pa), .dat amount1, .no, .no, .no]) (jt_cmpM (or_lt B.u0) od_lt (jm_pix 0 (by decide)) (je_var 1) rfl) (fun kk3 => (jk_st (i := 3) (st_set (jm_pix 0 (by decide)) B.nd) fun at4 => (jk_st (i := 4) (st_set je_int B.nd) fun cell5 => (jk_ifJM (env := fun (s6 : D) => [.raw (.ref pa), .dat amount1, .no, .dat at4, .dat s6]) (jt_cmpM (or_lt B.u0) od_lt (je_var 3) (jm_callBM call_len_seq cd_len T.z_len rfl (jam_cons (jm_pix 0 (by decide)) jam_nil)) rfl) (fun kk7 => (jk_st (i := 4) (st_set (jm_ixM B.u65 (jm_pix 0 (by decide)) (je_var 3)) B.nd) fun cell8 => (jk_nil (wk_exM cell8 (.same (.same (.no (.same (.same .nil))))))))) (fun kk7 => (jk_ifM (jt_cmpM op_gt od_gt (jm_callBM call_len_seq cd_len T.z_len rfl (jam_cons (jm_pix 0 (by decide)) jam_nil)) je_int rfl) (jk_st (i := 4) (st_set (jm_opM op_mod od_mod (jm_callTyM call_int1 cd_int T.z_int rfl (jam_cons (jm_ixM B.u65 (jm_pix 0 (by decide)) (jm_opM op_mod od_mod (JM.by (c1_eq _ _) (je_callTy call_int1 cd_int T.z_int rfl (jae_cons (je_op or_add od_add (je_op op_mulW od_mul (je_var 3) je_int) je_int) jae_nil))) (jm_callBM call_len_seq cd_len T.z_len rfl (jam_cons (jm_pix 0 (by decide)) jam_nil)))) jam_nil)) (je_op or_add od_add (je_op op_pow od_pow je_int je_int) (je_var 3))) B.nd) fun cell9 => (jk_nil (jk_nil (wk_exM cell9 (.same (.same (.no (.same (.same .nil))))))))) (jk_nil (jk_nil (wk_exM cell5 (.same (.same (.no (.same (.same .nil)))))))))) (fun s6 => (jk_pset 0 (je_op or_add od_add (je_var 3) je_int) (jk_pset 0 (JM.by (c2_eq _ _ _) (je_kn (Kn.mono (ok__law_spread T)) B (jae_cons (je_var 4) (jae_cons (je_var 3) jae_nil)))) (jk_nil (wk_exM () (.same (.same (.no (.no (.no .nil)))))))))))))) (fun kk3 => (jk_nil (wk_exM () (.same (.same (.no (.no (.no .nil)))))))) (fun s2 => (jk_st (i := 2) (st_set (jm_opM op_mod od_mod (jm_callTyM call_int1 cd_int T.z_int rfl (jam_cons (jm_pix 0 (by decide)) jam_nil)) (je_var 1)) B.nd) fun found10 => (jk_pset 0 (jm_opM op_fdivW od_fdiv (jm_pix 0 (by decide)) (je_var 1)) (jk_ret (je_var 2))))))
theorem ok__law_same_at (T : Tp K mg) : ∀ n : Nat, Kn P w K mg base "_law_same" (0 + n) (spR .dat 2 (F2 (m__law_same n)))
  | 0 => kn_none T.F__law_same T.m__law_same (T.F__law_same.binds (ps := ["found", "due"]) fun _ _ _ _ _ _ us hl => match us, hl with | [_, _], _ => rfl) fun ds => by
    unfold F2
    split <;> rfl
  | n + 1 => by
    have ih := ok__law_same_at T n
    refine kn_dat (k := 0 + n) (N := ["found", "due", "one", "other"]) (ps := ["found", "due"]) T.F__law_same T.m__law_same (T.F__law_same.binds (ps := ["found", "due"]) fun _ _ _ _ _ _ us hl => match us, hl with | [_, _], _ => rfl) ⟨rfl, rfl, rfl, by decide +kernel, rfl, by decide +kernel, by decide +kernel⟩ rfl fun cdv A outer s H E B ds hl => ?_
    match ds, hl with
    | [found1, due2], _ =>
      show JKE _ _ _ [.dat found1, .dat due2, .no, .no] _ _ (b__law_same (m__law_same n) found1 due2)
      exact (jke_if (JW.jt (jwe_or (jte_cmp op_isN od_isN (je_var 1) je_non rfl) (jwe_or1 (jte_cmp op_isN od_isN (je_var 0) je_non rfl)))) (jke_ret (je_and (je_cmp op_isN od_isN (je_var 1) je_non rfl) (je_one (je_cmp op_isN od_isN (je_var 0) je_non rfl)))) (jke_nil (jke_if (JW.jt (jwe_or (jte_tru (je_isi (je_var 1) T.z_isinstance T.z_bool rfl rfl)) (jwe_or1 (jte_tru (je_isi (je_var 0) T.z_isinstance T.z_bool rfl rfl))))) (jke_ret (je_and (je_isi (je_var 1) T.z_isinstance T.z_bool rfl rfl) (je_and (je_isi (je_var 0) T.z_isinstance T.z_bool rfl rfl) (je_one (je_cmp (or_eq B.u64) od_eq (je_var 0) (je_var 1) rfl))))) (jke_nil (jke_if (jte_tru (je_isi2 (je_var 1) T.z_isinstance T.z_int rfl rfl T.z_str rfl rfl)) (jke_if (jte_cmp (or_ne B.u64) od_ne (je_isi (je_var 0) T.z_isinstance T.z_int rfl rfl) (je_isi (je_var 1) T.z_isinstance T.z_int rfl rfl) rfl) (jke_ret je_bl) (jke_nil (jke_ret (je_and (je_isi2 (je_var 0) T.z_isinstance T.z_int rfl rfl T.z_str rfl rfl) (je_one (je_cmp (or_eq B.u64) od_eq (je_var 0) (je_var 1) rfl)))))) (jke_nil (jke_if (JW.jt (jwe_or (jte_cmp (or_ne B.u64) od_ne (je_isi (je_var 1) T.z_isinstance T.z_tuple rfl rfl) (je_isi (je_var 0) T.z_isinstance T.z_tuple rfl rfl) rfl) (jwe_or1 (jte_cmp (or_ne B.u64) od_ne (je_isi (je_var 1) T.z_isinstance T.z_list rfl rfl) (je_isi (je_var 0) T.z_isinstance T.z_list rfl rfl) rfl)))) (jke_ret je_bl) (jke_nil (jke_if (jte_cmp (or_ne B.u64) od_ne (JM.by (c1_eq _ _) (je_callB call_len_seq cd_len T.z_len rfl (jae_cons (je_var 0) jae_nil))) (JM.by (c1_eq _ _) (je_callB call_len_seq cd_len T.z_len rfl (jae_cons (je_var 1) jae_nil))) rfl) (jke_ret je_bl) (jke_nil (jke_ret (je_cmp (or_notIn B.u65) od_in je_bl (JLE.je (jle_lc2 (i1 := 2) (i2 := 3) (own := [("one", 2), ("other", 3)]) B (jie_zip T.z_zip (je_var 0) (je_var 1)) (blkOk_by (by rfl)) (fun _ _ _ _ _ => jg_tup B.hc (jgs_cons (jg_name B.nd) (jgs_cons (jg_name B.nd) jgs_nil))) (fun one3 other4 => okTE_nil) (fun one3 other4 => fun _ _ _ _ _ => (JM.by (c2_eq _ _ _) (je_kn ih (B.blk _ _ _ _ _) (jae_cons (je_var 2) (jae_cons (je_var 3) jae_nil))))))) rfl))))))))))))
theorem ok__law_same (T : Tp K mg) : Kn P w K mg base "_law_same" 40 (spR .dat 2 (F2 r__law_same)) := by
  unfold r__law_same
  exact ok__law_same_at T 40
theorem ok__law_draw_order (T : Tp K mg) : Kn P w K mg base "_law_draw_order" 3 (spM .dat 1 (G1 m__law_draw_order)) := by
  refine kn_pen (N := ["pen", "n", "turn", "left", "found"]) (ps := ["pen", "n"]) T.F__law_draw_order T.m__law_draw_order (T.F__law_draw_order.binds (ps := ["pen", "n"]) fun _ _ _ _ _ _ us hl => match us, hl with | [_, _], _ => rfl) ⟨rfl, rfl, rfl, by decide +kernel, rfl, by decide +kernel, by decide +kernel⟩ rfl fun cdv A outer s H E B pa ca cs ds hl q => ?_
  match ds, hl with
  | [n1], _ =>
    show JK _ _ _ [.raw (.ref pa), .dat n1, .no, .no, .no] _ _ _ (m__law_draw_order n1 q)
    unfold m__law_draw_order
    exact (jk_par (i := 3) (j := 4) B (jc_own (jle_rg1 B T.z_list T.z_range (je_var 1)) (jc_own (jle_lst jae_nil) jc_nil)) (by decide) rfl rfl rfl (fun c3 c5 => (jk_onL (f := fun c => [.raw (.ref pa), .dat n1, .no, c, c5]) (fun left2 => (jk_onL (f := fun c => [.raw (.ref pa), .dat n1, .no, .own left2, c]) (fun found4 => (jk_for1 (i := 2) (env := fun (s6 : List D × List D) => [.raw (.ref pa), .dat n1, .no, .own s6.1, .own s6.2]) (s0 := (left2, found4)) B (jie_range1 T.z_range (je_var 1)) (jg_name B.nd) (.same (.same (.no (.same (.same .nil))))) (fun s6 turn10 kk7 => (jk_appPop 4 3 (JM.lendM' (jm_pn 0 (Kn.mono (ok__law_take T)) B (jam_cons (JM.by (c1_eq _ _) (je_callB call_len_seq cd_len T.z_len rfl (jae_cons (je_var 3) jae_nil))) jam_nil))) (fun found11 left12 => (jk_nil (wk_exM (left12, found11) (.same (.same (.no (.same (.same .nil)))))))))) (fun s9 => (jk_give 4 (jk_ret (JM.by (c1_eq _ _) (je_callTy call_tupF cd_tuple T.z_tuple rfl (jae_cons (je_var 4) jae_nil)))))))))))))
theorem ok__law_web (T : Tp K mg) : Kn P w K mg base "_law_web" 1 (spR .dat 2 (F2 m__law_web)) := by
  refine kn_dat (N := ["n", "pairs", "a", "b"]) (ps := ["n", "pairs"]) T.F__law_web T.m__law_web (T.F__law_web.binds (ps := ["n", "pairs"]) fun _ _ _ _ _ _ us hl => match us, hl with | [_, _], _ => rfl) ⟨rfl, rfl, rfl, by decide +kernel, rfl, by decide +kernel, by decide +kernel⟩ rfl fun cdv A outer s H E B ds hl => ?_
  match ds, hl with
  | [n1, pairs2], _ =>
    show JKE _ _ _ [.dat n1, .dat pairs2, .no, .no] _ _ (m__law_web n1 pairs2)
    unfold m__law_web
    exact (jke_ret (je_tup (jae_cons (je_var 0) (jae_cons (JM.by (c1_eq _ _) (je_callTy call_tupF cd_tuple T.z_tuple rfl (jae_cons (JLE.je (JL.by (c1_eq _ _) (jle_two (cr_setAny B) (cr_sortSet B) cd_ss T.z_set rfl T.z_sorted rfl (jae_cons (JLE.je (jle_lc2 (i1 := 2) (i2 := 3) (own := [("a", 2), ("b", 3)]) B (jie_seq (je_var 1)) (blkOk_by (by rfl)) (fun _ _ _ _ _ => jg_tup B.hc (jgs_cons (jg_name B.nd) (jgs_cons (jg_name B.nd) jgs_nil))) (fun a3 b4 => okTE_one fun _ _ _ _ _ => (jte_cmp (or_ne B.u64) od_ne (je_var 2) (je_var 3) rfl)) (fun a3 b4 => fun _ _ _ _ _ => (je_tup (jae_cons (JM.by (c2_eq _ _ _) (je_callB (call_min2 B.hc) cd_min2 T.z_min rfl (jae_cons (je_var 2) (jae_cons (je_var 3) jae_nil)))) (jae_cons (JM.by (c2_eq _ _ _) (je_callB (call_max2 B.hc) cd_max2 T.z_max rfl (jae_cons (je_var 2) (jae_cons (je_var 3) jae_nil)))) jae_nil)))))) jae_nil)))) jae_nil))) jae_nil))))
theorem ok__law_draw_web (T : Tp K mg) : Kn P w K mg base "_law_draw_web" 4 (spM .dat 2 (G2 m__law_draw_web)) := by
  refine kn_pen (N := ["pen", "low", "high", "k", "more", "n", "way", "order", "pairs", "half", "rings", "ring", "other"]) (ps := ["pen", "low", "high"]) T.F__law_draw_web T.m__law_draw_web (T.F__law_draw_web.binds (ps := ["pen", "low", "high"]) fun _ _ _ _ _ _ us hl => match us, hl with | [_, _, _], _ => rfl) ⟨rfl, rfl, rfl, by decide +kernel, rfl, by decide +kernel, by decide +kernel⟩ rfl fun cdv A outer s H E B pa ca cs ds hl q => ?_
  match ds, hl with
  | [low1, high2], _ =>
    show JK _ _ _ [.raw (.ref pa), .dat low1, .dat high2, .no, .no, .no, .no, .no, .no, .no, .no, .no, .no] _ _ _ (m__law_draw_web low1 high2 q)
    unfold m__law_draw_web
    exact (jk_parC (i := 5) (j := 6) B (jc_dat (jm_opM or_add od_add (je_var 1) (jm_pn 0 (Kn.mono (ok__law_take T)) B (jam_cons (je_op or_add od_add (je_op op_sub od_sub (je_var 2) (je_var 1)) je_int) jam_nil))) (jc_dat (jm_pn 0 (Kn.mono (ok__law_take T)) B (jam_cons je_int jam_nil)) jc_nil)) (fun c4 c6 => (jk_onD (f := fun c => [.raw (.ref pa), .dat low1, .dat high2, .no, .no, c, c6, .no, .no, .no, .no, .no, .no]) (fun n3 => (jk_onD (f := fun c => [.raw (.ref pa), .dat low1, .dat high2, .no, .no, .dat n3, c, .no, .no, .no, .no, .no, .no]) (fun way5 => (jk_parC (i := 7) (j := 8) B (jc_dat (jm_pn 0 (Kn.mono (ok__law_draw_order T)) B (jam_cons (je_var 5) jam_nil)) (jc_own (jle_lst jae_nil) jc_nil)) (fun c8 c10 => (jk_onD (f := fun c => [.raw (.ref pa), .dat low1, .dat high2, .no, .no, .dat n3, .dat way5, c, c10, .no, .no, .no, .no]) (fun order7 => (jk_onL (f := fun c => [.raw (.ref pa), .dat low1, .dat high2, .no, .no, .dat n3, .dat way5, .dat order7, c, .no, .no, .no, .no]) (fun pairs9 => (jk_ifM (jte_cmp (or_eq B.u64) od_eq (je_var 6) je_int rfl) (jk_st (i := 8) (st_shr (st_lc1M (i := 3) (own := [("k", 3)]) B (ji_range1M T.z_range (jm_pn 0 (Kn.mono (ok__law_take T)) B (jam_cons (je_op or_add od_add (je_var 5) je_int) jam_nil))) (blkOk_by (by rfl)) (fun _ _ _ _ _ => jg_name B.nd) (fun k12 => okT_nilM) (fun k12 => fun _ _ _ _ _ => (jm_tupM (jam_cons (jm_pn 0 (Kn.mono (ok__law_take T)) (B.blk _ _ _ _ _) (jam_cons (je_var 5) jam_nil)) (jam_cons (jm_pn 0 (Kn.mono (ok__law_take T)) (B.blk _ _ _ _ _) (jam_cons (je_var 5) jam_nil)) jam_nil)))))) fun pairs11 => (jk_ret (JM.by (c2_eq _ _ _) (je_kn (Kn.mono (ok__law_web T)) B (jae_cons (je_var 5) (jae_cons (je_var 8) jae_nil)))))) (jk_nil (jk_ifM (jte_cmp (or_in B.u65) od_in (je_var 6) (JLE.je (jle_lst (jae_cons je_int (jae_cons je_int jae_nil)))) rfl) (jk_st (i := 8) (st_set (je_op or_add od_add (JLE.je (jle_lc1 (i := 3) (own := [("k", 3)]) B (jie_range2 T.z_range (je_op op_sub od_sub je_int (je_var 6)) (je_var 5)) (blkOk_by (by rfl)) (fun _ _ _ _ _ => jg_name B.nd) (fun k14 => okTE_nil) (fun k14 => fun _ _ _ _ _ => (je_tup (jae_cons (je_ix B.u65 (je_var 7) (je_op op_sub od_sub (je_var 3) je_int)) (jae_cons (je_ix B.u65 (je_var 7) (je_var 3)) jae_nil)))))) (JLE.je (jle_lst (jae_cons (je_tup (jae_cons (je_ix B.u65 (je_var 7) je_int) (jae_cons (je_ix B.u65 (je_var 7) (je_op op_mulW od_mul je_int (JM.by (c1_eq _ _) (je_callTy call_int1 cd_int T.z_int rfl (jae_cons (je_cmp op_gt od_gt (je_var 5) je_int rfl) jae_nil))))) jae_nil))) jae_nil)))) B.nd) fun pairs13 => (jk_ret (JM.by (c2_eq _ _ _) (je_kn (Kn.mono (ok__law_web T)) B (jae_cons (je_var 5) (jae_cons (je_op or_add od_add (je_var 8) (JLE.je (jle_op op_rep od_repL (JLE.je (jle_lst (jae_cons (je_tup (jae_cons (je_ix B.u65 (je_var 7) je_int) (jae_cons (je_ix B.u65 (je_var 7) (je_op op_sub od_sub (je_var 5) je_int)) jae_nil))) jae_nil))) (je_op op_sub od_sub (je_var 6) je_int)))) jae_nil)))))) (jk_nil (jk_ifM (jte_cmp (or_eq B.u64) od_eq (je_var 6) je_int rfl) (jk_ret (JM.by (c2_eq _ _ _) (je_kn (Kn.mono (ok__law_web T)) B (jae_cons (je_var 5) (jae_cons (JLE.je (jle_lc1 (i := 12) (own := [("other", 12)]) B (jie_seq (je_var 7)) (blkOk_by (by rfl)) (fun _ _ _ _ _ => jg_name B.nd) (fun other15 => okTE_nil) (fun other15 => fun _ _ _ _ _ => (je_tup (jae_cons (je_ix B.u65 (je_var 7) je_int) (jae_cons (je_var 12) jae_nil)))))) jae_nil))))) (jk_nil (jk_ifM (JW.jt (jwe_and (jte_cmp (or_eq B.u64) od_eq (je_var 6) je_int rfl) (jwe_and1 (jte_cmp op_gt od_gt (je_var 5) je_int rfl)))) (jk_st (i := 9) (st_set (jm_opM or_add od_add je_int (jm_pn 0 (Kn.mono (ok__law_take T)) B (jam_cons (je_op op_sub od_sub (je_var 5) je_int) jam_nil))) B.nd) fun half16 => (jk_st (i := 10) (st_shr (st_setL (jle_lst (jae_cons (je_slice (je_var 7) jo_none (jo_some (je_op or_add od_add (je_var 9) je_int))) (jae_cons (je_slice (je_var 7) (jo_some (je_var 9)) jo_none) jae_nil))) B.nd)) fun rings17 => (jk_give 8 (jk_for1 (i := 11) (env := fun (s18 : D) => [.raw (.ref pa), .dat low1, .dat high2, .no, .no, .dat n3, .dat way5, .dat order7, .dat s18, .dat half16, .dat rings17, .no, .no]) (s0 := (PyData.list pairs9)) B (jie_seq (je_var 10)) (jg_name B.nd) (.same (.same (.same (.no (.no (.same (.same (.same (.same (.same (.same (.no (.no .nil))))))))))))) (fun s18 ring22 kk19 => (jk_st (i := 8) (st_set (je_op or_add od_add (je_var 8) (JLE.je (jle_lc1 (i := 3) (own := [("k", 3)]) B (jie_range1 T.z_range (JM.by (c1_eq _ _) (je_callB call_len_seq cd_len T.z_len rfl (jae_cons (je_var 11) jae_nil)))) (blkOk_by (by rfl)) (fun _ _ _ _ _ => jg_name B.nd) (fun k24 => okTE_nil) (fun k24 => fun _ _ _ _ _ => (je_tup (jae_cons (je_ix B.u65 (je_var 11) (je_op op_sub od_sub (je_var 3) je_int)) (jae_cons (je_ix B.u65 (je_var 11) (je_var 3)) jae_nil))))))) B.nd) fun pairs23 => (jk_nil (wk_exM pairs23 (.same (.same (.same (.no (.no (.same (.same (.same (.same (.same (.same (.no (.no .nil))))))))))))))))) (fun s21 => (jk_ret (JM.by (c2_eq _ _ _) (je_kn (Kn.mono (ok__law_web T)) B (jae_cons (je_var 5) (jae_cons (je_var 8) jae_nil)))))))))) (jk_nil (jk_for1 (i := 3) (env := fun (s25 : List D) => [.raw (.ref pa), .dat low1, .dat high2, .no, .no, .dat n3, .dat way5, .dat order7, .own s25, .no, .no, .no, .no]) (s0 := pairs9) B (jie_range2 T.z_range je_int (je_var 5)) (jg_name B.nd) (.same (.same (.same (.no (.no (.same (.same (.same (.same (.no (.no (.no (.no .nil))))))))))))) (fun s25 k29 kk26 => (jk_app 8 (jm_tupM (jam_cons (jm_ixM B.u65 (je_var 7) (jm_pn 0 (Kn.mono (ok__law_take T)) B (jam_cons (je_var 3) jam_nil))) (jam_cons (je_ix B.u65 (je_var 7) (je_var 3)) jam_nil))) fun d31 => (jk_nil (wk_exM (s25 ++ [d31]) (.same (.same (.same (.no (.no (.same (.same (.same (.same (.no (.no (.no (.no .nil))))))))))))))))) (fun s28 => (jk_st (i := 4) (st_set (je_ix B.u65 (JLE.je (jle_lst (jae_cons je_int (jae_cons je_int (jae_cons je_int (jae_cons je_int (jae_cons je_int (jae_cons je_int (jae_cons je_int (jae_cons (je_var 5) (jae_cons (je_op op_mulW od_mul je_int (je_var 5)) jae_nil))))))))))) (je_var 6)) B.nd) fun more32 => (jk_give 8 (jk_ret (jm_knM (Kn.mono (ok__law_web T)) B (jam_cons (je_var 5) (jam_cons (jm_opM or_add od_add (je_var 8) (JL.jmM (jl_lc1M (i := 3) (own := [("k", 3)]) B (jie_range1 T.z_range (je_var 4)) (blkOk_by (by rfl)) (fun _ _ _ _ _ => jg_name B.nd) (fun k33 => okT_nilM) (fun k33 => fun _ _ _ _ _ => (jm_tupM (jam_cons (jm_pn 0 (Kn.mono (ok__law_take T)) (B.blk _ _ _ _ _) (jam_cons (je_var 5) jam_nil)) (jam_cons (jm_pn 0 (Kn.mono (ok__law_take T)) (B.blk _ _ _ _ _) (jam_cons (je_var 5) jam_nil)) jam_nil))))))) jam_nil))))))))))))))))))))))))))))
theorem ok__law_text (T : Tp K mg) : Kn P w K mg base "_law_text" 1 (spR .dat 2 (F2 m__law_text)) := by
  refine kn_dat (N := ["web", "dealing", "lines", "line", "a", "b", "i"]) (ps := ["web", "dealing"]) T.F__law_text T.m__law_text (T.F__law_text.binds (ps := ["web", "dealing"]) fun _ _ _ _ _ _ us hl => match us, hl with | [_, _], _ => rfl) ⟨rfl, rfl, rfl, by decide +kernel, rfl, by decide +kernel, by decide +kernel⟩ rfl fun cdv A outer s H E B ds hl => ?_
  match ds, hl with
  | [web1, dealing2], _ =>
    show JKE _ _ _ [.dat web1, .dat dealing2, .no, .no, .no, .no, .no] _ _ (m__law_text web1 dealing2)
    unfold m__law_text
    exact (jke_stL (i := 2) (st_setL (jle_op op_cat odl_cat (JLE.je (jle_lst (jae_cons (je_op or_add od_add je_str (JM.by (c1_eq _ _) (je_callTy call_str_int cd_str T.z_str rfl (jae_cons (je_ix B.u65 (je_var 0) je_int) jae_nil)))) jae_nil))) (JLE.je (jle_lc2 (i1 := 4) (i2 := 5) (own := [("a", 4), ("b", 5)]) B (jie_seq (je_ix B.u65 (je_var 0) je_int)) (blkOk_by (by rfl)) (fun _ _ _ _ _ => jg_tup B.hc (jgs_cons (jg_name B.nd) (jgs_cons (jg_name B.nd) jgs_nil))) (fun a4 b5 => okTE_nil) (fun a4 b5 => fun _ _ _ _ _ => (je_op or_add od_add (je_op or_add od_add (je_op or_add od_add je_str (JM.by (c1_eq _ _) (je_callTy call_str_int cd_str T.z_str rfl (jae_cons (je_var 4) jae_nil)))) je_str) (JM.by (c1_eq _ _) (je_callTy call_str_int cd_str T.z_str rfl (jae_cons (je_var 5) jae_nil)))))))) B.nd) fun lines3 => (jke_ifJ (env := fun (s6 : D) => [.dat web1, .dat dealing2, .dat s6, .no, .no, .no, .no]) (jte_cmp op_notN od_notN (je_var 1) je_non rfl) (fun kk7 => (jke_app 2 (je_join je_str (JLE.je (jle_op op_cat odl_cat (JLE.je (jle_lst (jae_cons je_str jae_nil))) (JLE.je (jle_lc1 (i := 6) (own := [("i", 6)]) B (jie_seq (je_var 1)) (blkOk_by (by rfl)) (fun _ _ _ _ _ => jg_name B.nd) (fun i8 => okTE_nil) (fun i8 => fun _ _ _ _ _ => (JM.by (c1_eq _ _) (je_callTy call_str_int cd_str T.z_str rfl (jae_cons (je_var 6) jae_nil))))))))) fun lines9 => (jke_give 2 (jke_nil (wk_ex (PyData.list lines9) (.same (.same (.same (.no (.no (.no (.no .nil)))))))))))) (fun kk7 => (jke_give 2 (jke_nil (wk_ex (PyData.list lines3) (.same (.same (.same (.no (.no (.no (.no .nil))))))))))) (fun s6 => (jke_ret (je_join je_str (JLE.je (jle_lc1 (i := 3) (own := [("line", 3)]) B (jie_seq (je_var 2)) (blkOk_by (by rfl)) (fun _ _ _ _ _ => jg_name B.nd) (fun line10 => okTE_nil) (fun line10 => fun _ _ _ _ _ => (je_op or_add od_add (je_var 3) je_str)))))))))
theorem ok__law_full (T : Tp K mg) : Kn P w K mg base "_law_full" 1 (spR .dat 1 (F1 m__law_full)) := by
  refine kn_dat (N := ["n", "ties", "a", "b"]) (ps := ["n"]) T.F__law_full T.m__law_full (T.F__law_full.binds (ps := ["n"]) fun _ _ _ _ _ _ us hl => match us, hl with | [_], _ => rfl) ⟨rfl, rfl, rfl, by decide +kernel, rfl, by decide +kernel, by decide +kernel⟩ rfl fun cdv A outer s H E B ds hl => ?_
  match ds, hl with
  | [n1], _ =>
    show JKE _ _ _ [.dat n1, .no, .no, .no] _ _ (m__law_full n1)
    unfold m__law_full
    exact (jke_st (i := 1) (ste_shr (st_setL (jle_lst jae_nil) B.nd)) fun ties2 => (jke_for1 (i := 2) (env := fun (s3 : D) => [.dat n1, .dat s3, .no, .no]) (s0 := ties2) B (jie_range1 T.z_range (je_var 0)) (jg_name B.nd) (.same (.same (.no (.no .nil)))) (fun s3 a7 kk4 => (jke_st (i := 1) (st_set (je_op or_add od_add (je_var 1) (JLE.je (jle_lc1 (i := 3) (own := [("b", 3)]) B (jie_range2 T.z_range (je_op or_add od_add (je_var 2) je_int) (je_var 0)) (blkOk_by (by rfl)) (fun _ _ _ _ _ => jg_name B.nd) (fun b9 => okTE_nil) (fun b9 => fun _ _ _ _ _ => (je_tup (jae_cons (je_var 2) (jae_cons (je_var 3) jae_nil))))))) B.nd) fun ties8 => (jke_nil (wk_ex ties8 (.same (.same (.no (.no .nil)))))))) (fun s6 => (jke_ret (je_tup (jae_cons (je_var 0) (jae_cons (JM.by (c1_eq _ _) (je_callTy call_tupF cd_tuple T.z_tuple rfl (jae_cons (je_var 1) jae_nil))) jae_nil)))))))
theorem ok_law (T : Tp K mg) (hL : m_law qTrue 0) : FnG P w K mg base CX0 200 T.f_law T.fd_law ["script"] (spLaw K) := by
  refine FnG.mono (law_g (N := ["script", "pen", "turn", "web", "dealing", "text", "place"]) (ps := ["script"]) (i := 1) (k := 40) (L := fun _ => m_law qTrue) T.F_law ⟨rfl, rfl, rfl, by decide +kernel, rfl, by decide +kernel, by decide +kernel⟩ rfl rfl (by decide) (by decide) law_open_ok (fun _ => hL) (fun cdv A outer s H E B a => ps_open 1 B (Kn.mono (ok__law_open T))) (fun cdv A outer s H E B a pa ca cs => ?_)) (by omega)
  show JK _ _ _ [.raw (.ref a), .raw (.ref pa), .no, .no, .no, .no, .no] _ _ _ (m_law qTrue)
  unfold m_law
  exact (jk_for1 (i := 2) (env := fun (s1 : Unit) => [.raw (.ref a), .raw (.ref pa), .no, .no, .no, .no, .no]) (s0 := ()) B (jie_range1 T.z_range je_int) (jg_name B.nd) (.same (.same (.no (.no (.no (.no (.no .nil))))))) (fun s1 turn5 kk2 => (jk_st (i := 3) (st_set (jm_ifM (jte_cmp (or_lt B.u0) od_lt (je_var 2) je_int rfl) (jm_pn 1 (Kn.mono (ok__law_draw_web T)) B (jam_cons je_int (jam_cons je_int jam_nil))) (jm_knM (Kn.mono (ok__law_full T)) B (jam_cons (jm_opM or_add od_add je_int (jm_pn 1 (Kn.mono (ok__law_take T)) B (jam_cons je_int jam_nil))) jam_nil))) B.nd) fun web6 => (jk_st (i := 4) (st_set (jm_ifM (jt_cmpM op_gt od_gt (jm_pn 1 (Kn.mono (ok__law_take T)) B (jam_cons je_int jam_nil)) je_int rfl) (jm_callTyM call_tupF cd_tuple T.z_tuple rfl (jam_cons (JL.jmM (jl_lc1M (i := 6) (own := [("place", 6)]) B (jie_range1 T.z_range (je_ix B.u65 (je_var 3) je_int)) (blkOk_by (by rfl)) (fun _ _ _ _ _ => jg_name B.nd) (fun place8 => okT_nilM) (fun place8 => fun _ _ _ _ _ => (jm_pn 1 (Kn.mono (ok__law_take T)) (B.blk _ _ _ _ _) (jam_cons je_int jam_nil))))) jam_nil)) je_non) B.nd) fun dealing7 => (jk_st (i := 5) (st_set (JM.by (c2_eq _ _ _) (je_kn (Kn.mono (ok_write_web T)) B (jae_cons (je_var 3) (jae_cons (je_var 4) jae_nil)))) B.nd) fun text9 => (jk_ifM (JW.jt (jwe_or (jte_not (jte_tru (JM.by (c2_eq _ _ _) (je_kn (Kn.mono (ok__law_same T)) B (jae_cons (je_var 5) (jae_cons (JM.by (c2_eq _ _ _) (je_kn (Kn.mono (ok__law_text T)) B (jae_cons (je_var 3) (jae_cons (je_var 4) jae_nil)))) jae_nil)))))) (jwe_or1 (jte_cmp op_isnotB od_isB (JM.by (c1_eq _ _) (je_kn (Kn.mono (ok_is_text T)) B (jae_cons (je_var 5) jae_nil))) je_bl rfl)))) (jk_ret je_bl) (jk_nil (jk_ifM (jte_not (jte_tru (JM.by (c2_eq _ _ _) (je_kn (Kn.mono (ok__law_same T)) B (jae_cons (JM.by (c1_eq _ _) (je_kn (Kn.mono (ok_read_web T)) B (jae_cons (je_var 5) jae_nil))) (jae_cons (je_tup (jae_cons (je_var 3) (jae_cons (je_var 4) jae_nil))) jae_nil)))))) (jk_ret je_bl) (jk_nil (jk_nil (wk_exM () (.same (.same (.no (.no (.no (.no (.no .nil))))))))))))))))) (fun s4 => (jk_ret je_bl)))
end
end Dl

set_option Elab.async false
set_option linter.all false
set_option autoImplicit false
set_option maxRecDepth 100000
set_option maxHeartbeats 1000000
namespace Dl
open PySem L2
theorem sizeX : sizeLine = 16777216 := sizeLine_eq
abbrev xD (l : List Nat) : D := .str (SX.S l)
theorem eqvX (a b : List Nat) : PyData.eqv (xD a) (xD b) = decide (a = b) := by
  show (SX.S a == SX.S b) = _
  exact SX.S_beq_eq
theorem okX (a b : List Nat) : eqOk (xD a) (xD b) = true := by
  unfold eqOk
  simp [PyData.plain, PyData.depth]
theorem eqX (a b : List Nat) : b2 dEq (some (xD a)) (some (xD b)) = some (.bool (decide (a = b))) := by
  show (if eqOk (xD a) (xD b) = true then some (PyData.bool (PyData.eqv (xD a) (xD b))) else none) = _
  rw [if_pos (okX a b), eqvX]
theorem neX (a b : List Nat) : b2 dNe (some (xD a)) (some (xD b)) = some (.bool (!decide (a = b))) := by
  show (if eqOk (xD a) (xD b) = true then some (PyData.bool (!PyData.eqv (xD a) (xD b))) else none) = _
  rw [if_pos (okX a b), eqvX]
theorem lenS (a : List Nat) : (SX.S a).length = a.length := SX.S_len a
theorem addX {a b : List Nat} (h : a.length + b.length ≤ 16777216) : b2 dAdd (some (xD a)) (some (xD b)) = some (xD (a ++ b)) := by
  show (if (SX.S a).length + (SX.S b).length ≤ sizeLine then some (PyData.str (SX.S a ++ SX.S b)) else none) = _
  rw [lenS, lenS, sizeX, if_pos h, SX.S_cat]
theorem strX {n : Nat} (hn : n < 100) : C1 dStr (some (.int (n : Nat))) = some (xD (TL.numL n)) := by
  show (if (n : Int).natAbs.log2 < 1920 then some (PyData.str (Str.ofString (toString (n : Int)))) else none) = _
  rw [if_pos]
  · congr 2
    exact TL.ext_tl (TL.tl_num n)
  · rw [Int.natAbs_natCast]
    have : n.log2 ≤ n := Nat.log2_le_self n
    omega
theorem strsX : ∀ ys : List (List Nat), strsD (ys.map xD) = some (ys.map SX.S)
  | [] => rfl
  | y :: ys => by
    show (strsD (ys.map xD)).map (SX.S y :: ·) = _
    rw [strsX ys]
    rfl
theorem joinX (sep : List Nat) (ys : List (List Nat)) (h : (ys.map (·.length)).sum + ys.length * sep.length ≤ 16777216) : joiO (some (xD sep)) (some (.list (ys.map xD))) = some (xD (TL.joinL sep ys)) := by
  show (strsD (ys.map xD)).bind (fun zs => if (zs.map (·.length)).sum + zs.length * (SX.S sep).length ≤ 16777216 then some (PyData.str (Txt.join (SX.S sep) zs)) else none) = _
  rw [strsX]
  show (if ((ys.map SX.S).map (·.length)).sum + (ys.map SX.S).length * (SX.S sep).length ≤ 16777216 then some (PyData.str (Txt.join (SX.S sep) (ys.map SX.S))) else none) = _
  have e : (ys.map SX.S).map (·.length) = ys.map (·.length) := by
    rw [List.map_map]
    exact List.map_congr_left fun y _ => lenS y
  rw [e, List.length_map, lenS, if_pos h, SX.join_S]
theorem splitX {a sep : List Nat} (hs : sep ≠ []) (hk : sep.all (· < 256) = true) (h : a.length ≤ 16000000) : splO (some (xD a)) (some (xD sep)) = some ((TL.spl sep 0 [] a).map xD) := by
  show (if ((SX.S sep).length == 0) = false ∧ (SX.S a).length + 2 ≤ sizeLine then some ((Txt.split (SX.S a) (SX.S sep)).map PyData.str) else none) = _
  rw [lenS, lenS, sizeX, if_pos ⟨by simpa using hs, by omega⟩, SX.split_S hs hk, List.map_map]
  rfl
theorem spl_sizes (S : List Nat) : ∀ (l : List Nat) (k : Nat) (acc : List Nat), (TL.spl S k acc l).length ≤ l.length + 1 ∧ TL.spl S k acc l ≠ [] ∧ ∀ p ∈ TL.spl S k acc l, p.length ≤ acc.length + l.length
  | [], k, acc => by
    rw [TL.spl_nil]
    refine ⟨Nat.le_refl _, by simp, fun p hp => ?_⟩
    rw [List.mem_singleton.mp hp]
    exact Nat.le_refl _
  | c :: r, 0, acc => by
    by_cases h : TL.pre S (c :: r) = true
    · rw [TL.spl_hit h]
      obtain ⟨h1, _, h3⟩ := spl_sizes S r (S.length - 1) []
      refine ⟨by rw [List.length_cons, List.length_cons]; omega, by simp, fun p hp => ?_⟩
      rw [List.length_cons]
      rcases List.mem_cons.mp hp with rfl | hp
      · omega
      · have := h3 p hp
        rw [List.length_nil] at this
        omega
    · rw [TL.spl_miss (by simpa using h)]
      obtain ⟨h1, h2, h3⟩ := spl_sizes S r 0 (acc ++ [c])
      refine ⟨by rw [List.length_cons]; omega, h2, fun p hp => ?_⟩
      have := h3 p hp
      rw [List.length_append, List.length_singleton] at this
      rw [List.length_cons]
      omega
  | c :: r, k + 1, acc => by
    show (TL.spl S k acc r).length ≤ _ ∧ TL.spl S k acc r ≠ [] ∧ ∀ p ∈ TL.spl S k acc r, _
    obtain ⟨h1, h2, h3⟩ := spl_sizes S r k acc
    refine ⟨by rw [List.length_cons]; omega, h2, fun p hp => ?_⟩
    have := h3 p hp
    rw [List.length_cons]
    omega
theorem at0 {α : Type} (x : α) (xs : List α) : atI (x :: xs) 0 = some x := by
  unfold atI ixN
  rw [if_pos (Int.le_refl _), if_pos (by rw [List.length_cons]; omega)]
  rfl
theorem atLast {α : Type} (xs : List α) : atI xs (-1) = xs.getLast? := by
  unfold atI ixN
  rw [if_neg (by decide)]
  cases xs with
  | nil => rfl
  | cons x xs =>
    rw [if_pos (by rw [List.length_cons]; omega), List.getLast?_eq_getElem?]
    have : (-1 + ((x :: xs).length : Int)).toNat = (x :: xs).length - 1 := by rw [List.length_cons]; omega
    show (x :: xs)[(-1 + ((x :: xs).length : Int)).toNat]? = _
    rw [this]
theorem ixL0 (x : D) (xs : List D) : b2 dIx (some (PyData.list (x :: xs))) (some (PyData.int 0)) = some x := at0 x xs
def digS (w : List Nat) : Bool := w.all fun c => decide (48 ≤ c ∧ c ≤ 57)
def numO (w : List Nat) : Option Nat := if (decide (1 ≤ w.length ∧ w.length ≤ 2) && digS w && (decide (w = [48]) || !decide (w.head? = some 48))) = true then some (NumText.digitsVal w) else none
def numD : Option Nat → D
  | some n => .int (n : Nat)
  | none => .none
theorem dig_in (c : Nat) : decide (c ∈ [48, 49, 50, 51, 52, 53, 54, 55, 56, 57]) = decide (48 ≤ c ∧ c ≤ 57) := by
  apply Bool.eq_iff_iff.mpr
  simp only [List.mem_cons, List.not_mem_nil, or_false, decide_eq_true_eq]
  omega
theorem lit_dig : ("0123456789" : Str) = SX.S [48, 49, 50, 51, 52, 53, 54, 55, 56, 57] := by rfl
theorem lit_0 : ("0" : Str) = SX.S [48] := by rfl
theorem lit_sp : (" " : Str) = SX.S [32] := by rfl
theorem lit_nl : ("\n" : Str) = SX.S [10] := by rfl
theorem lit_e : ("" : Str) = SX.S [] := by rfl
abbrev plC : List Nat := [112, 108, 97, 99, 101, 115]
abbrev tiC : List Nat := [116, 105, 101]
abbrev paC : List Nat := [112, 97, 114, 116, 115]
theorem lit_pl : ("places" : Str) = SX.S plC := by rfl
theorem lit_ti : ("tie" : Str) = SX.S tiC := by rfl
theorem lit_pa : ("parts" : Str) = SX.S paC := by rfl
theorem lit_pls : ("places " : Str) = SX.S (plC ++ [32]) := by rfl
theorem lit_tis : ("tie " : Str) = SX.S (tiC ++ [32]) := by rfl
theorem notIn_dig (c : Nat) : b2 dNotInX (some (xD [c])) (some (PyData.str "0123456789")) = some (.bool (!decide (48 ≤ c ∧ c ≤ 57))) := by
  rw [lit_dig]
  show some (PyData.bool (!(!(Builtin.Str.occurrences (SX.S [48, 49, 50, 51, 52, 53, 54, 55, 56, 57]) (SX.S [c]) 0 (SX.S [48, 49, 50, 51, 52, 53, 54, 55, 56, 57]).length 1).isEmpty))) = _
  rw [SX.in_one, dig_in]
theorem signs_items (w : List Nat) : (some (xD w)).bind dSigns = some (w.map fun c => xD [c]) := rfl
theorem any_dig {w : List Nat} (hw : w.length < 16777216) : (C1 dAny ((lcO ((some (xD w)).bind dSigns) fun sign2 => turnO (some true) (b2 dNotInX (some sign2) (some (PyData.str "0123456789")))).map PyData.list)).bind asT = some (!digS w) := by
  have e := lcO_map (f := fun d => b2 dNotInX (some d) (some (PyData.str "0123456789"))) (g := fun c => xD [c]) (h := fun c => PyData.bool (!decide (48 ≤ c ∧ c ≤ 57))) w (signs_items w) (by rw [sizeX]; exact hw) fun c _ => notIn_dig c
  rw [e]
  have e2 : w.map (fun c => PyData.bool (!decide (48 ≤ c ∧ c ≤ 57))) = (w.map fun c => !decide (48 ≤ c ∧ c ≤ 57)).map PyData.bool := by rw [List.map_map]; rfl
  show ((blsOf (w.map fun c => PyData.bool (!decide (48 ≤ c ∧ c ≤ 57)))).map fun bs => PyData.bool (bs.any id)).bind asT = _
  rw [e2, blsOf_map]
  show some ((w.map fun c => !decide (48 ≤ c ∧ c ≤ 57)).any id) = _
  unfold digS
  rw [List.any_map, List.not_all_eq_any_not]
  rfl
theorem numberOf_eval {w : List Nat} (hw : w.length < 16777216) : C1 m_number_of (some (xD w)) = some (numD (numO w)) := by
  rw [c1_some]
  unfold m_number_of
  have e1 : C1 dLenX (some (xD w)) = some (.int (w.length : Nat)) := by
    show (if (SX.S w).length ≤ sizeLine then some (PyData.int (SX.S w).length) else none) = _
    rw [lenS, sizeX, if_pos (by omega)]
  have e2 : ((chainO dLe dLe (some (PyData.int 1)) (C1 dLenX (some (xD w))) (some (PyData.int 2))).bind asB).map (!·) = some (!decide (1 ≤ w.length ∧ w.length ≤ 2)) := by
    rw [e1]
    show ((if decide ((1 : Int) ≤ (w.length : Nat)) = true then some (PyData.bool (decide (((w.length : Nat) : Int) ≤ 2))) else some (.bool false)).bind asB).map (!·) = _
    by_cases h : 1 ≤ w.length
    · rw [if_pos (decide_eq_true (by omega))]
      show some (!decide (((w.length : Nat) : Int) ≤ 2)) = _
      congr 2
      apply Bool.eq_iff_iff.mpr
      simp only [decide_eq_true_eq]
      omega
    · rw [if_neg (by simp; omega)]
      show some (!false) = _
      congr 2
      symm
      apply decide_eq_false
      omega
  rw [e2, any_dig hw]
  unfold numO
  by_cases h1 : 1 ≤ w.length ∧ w.length ≤ 2
  · rw [decide_eq_true h1, Bool.true_and]
    cases h2 : digS w with
    | false => rfl
    | true =>
      show ifO (orO ((b2 dEq (some (xD w)) (some (PyData.str "0"))).bind asB) ((b2 dNe (b2 dIxX (some (xD w)) (some (PyData.int 0))) (some (PyData.str "0"))).bind asB)) (C1 dIntX (some (xD w))) (some PyData.none) = _
      have hne : w ≠ [] := fun z => by rw [z] at h1; exact absurd h1.1 (by decide)
      have e3 : C1 dIntX (some (xD w)) = some (.int (NumText.digitsVal w : Nat)) := by
        show (if (SX.S w).length ≤ 640 then (PySem.intText? (SX.S w)).map PyData.int else none) = _
        rw [if_pos (by rw [lenS]; omega), PySem.intText_digits (x := SX.S w) (fun c hc => by
          have := List.all_eq_true.mp h2 c hc
          simpa using this) hne (by rw [lenS]; omega)]
        rfl
      obtain ⟨c, r, rfl⟩ := List.exists_cons_of_ne_nil hne
      have e4 : b2 dIxX (some (xD (c :: r))) (some (PyData.int 0)) = some (xD [c]) := by
        show (if (SX.S (c :: r)).length ≤ sizeLine then (atI (c :: r) 0).map fun c => PyData.str ⟨#[c]⟩ else none) = _
        rw [lenS, sizeX, if_pos (by omega), at0]
        rfl
      rw [e3, e4, lit_0, eqX, neX]
      show ifO (orO (some (decide (c :: r = [48]))) (some (!decide ([c] = [48])))) _ _ = _
      have e5 : decide ([c] = [48]) = decide ((c :: r).head? = some 48) := by
        apply Bool.eq_iff_iff.mpr
        simp
      rw [e5]
      cases decide (c :: r = [48]) <;> cases decide ((c :: r).head? = some 48) <;> rfl
  · rw [decide_eq_false h1]
    rfl
def rowL : List (List Nat) → Option (List Nat)
  | [] => some []
  | w :: ws => (numO w).bind fun n => (rowL ws).map (n :: ·)
def rowO (word line : List Nat) : Option (List Nat) := match TL.spl [32] 0 [] line with
  | w :: ws => if w = word then rowL ws else none
  | [] => none
def rowD : Option (List Nat) → D
  | some ns => .tuple (ofN ns)
  | none => .none
theorem rowL_some : ∀ {ws : List (List Nat)} {ns : List Nat}, rowL ws = some ns → ws.map (fun w => numD (numO w)) = ofN ns
  | [], _, h => by cases h; rfl
  | w :: ws, _, h => by
    obtain ⟨n, h1, h⟩ := Option.bind_eq_some_iff.mp h
    obtain ⟨ns, h2, rfl⟩ := Option.map_eq_some_iff.mp h
    rw [List.map_cons, h1, rowL_some h2]
    rfl
theorem rowL_none : ∀ {ws : List (List Nat)}, rowL ws = none ↔ ∃ w ∈ ws, numO w = none
  | [] => by simp [rowL]
  | w :: ws => by
    cases h : numO w with
    | none => simp [rowL, h]
    | some n =>
      simp only [rowL, h, Option.bind_some, Option.map_eq_none_iff, List.mem_cons, exists_eq_or_imp, reduceCtorEq, false_or]
      exact rowL_none
theorem numD_plain : ∀ ws : List (List Nat), PyData.plainAll (ws.map fun w => numD (numO w)) = true ∧ PyData.depthAll (ws.map fun w => numD (numO w)) = 0
  | [] => ⟨rfl, rfl⟩
  | w :: ws => by
    obtain ⟨h1, h2⟩ := numD_plain ws
    rw [List.map_cons]
    cases numO w with
    | none => exact ⟨by rw [PyData.plainAll, h1]; rfl, by rw [PyData.depthAll, h2]; rfl⟩
    | some n => exact ⟨by rw [PyData.plainAll, h1]; rfl, by rw [PyData.depthAll, h2]; rfl⟩
theorem none_in (ws : List (List Nat)) : b2 (dIn true) (some PyData.none) (some (.tuple (ws.map fun w => numD (numO w)))) = some (.bool (rowL ws).isSome) := by
  show (if inOk .none (ws.map fun w => numD (numO w)) = true then some (PyData.bool (if true = true then !((ws.map fun w => numD (numO w)).any fun y => PyData.eqv y .none) else (ws.map fun w => numD (numO w)).any fun y => PyData.eqv y .none)) else none) = _
  obtain ⟨h1, h2⟩ := numD_plain ws
  rw [if_pos (by unfold inOk; rw [h1, h2]; simp [PyData.plain, PyData.depth]), if_pos rfl]
  congr 2
  apply Bool.eq_iff_iff.mpr
  rw [Bool.not_eq_true', Option.isSome_iff_ne_none, Ne, rowL_none, List.any_map, ← Bool.not_eq_true, List.any_eq_true]
  refine not_congr ⟨fun ⟨w, hw, e⟩ => ⟨w, hw, ?_⟩, fun ⟨w, hw, e⟩ => ⟨w, hw, by show PyData.eqv (numD (numO w)) .none = true; rw [e]; rfl⟩⟩
  have e : PyData.eqv (numD (numO w)) .none = true := e
  cases h : numO w with
  | none => rfl
  | some n => rw [h] at e; cases e
theorem drop1 (xs : List D) : slO (some (.list xs)) ((some (PyData.int 1)).bind asI) (some none) = some (.list (xs.drop 1)) := by
  show some (PyData.list (cutD xs (some 1) none)) = _
  unfold cutD
  rw [HT.sIx_none, show (1 : Int) = ((1 : Nat) : Int) from rfl, HT.sIx_nat]
  congr 2
  cases xs with
  | nil => rfl
  | cons x xs =>
    have e : min 1 (x :: xs).length = 1 := by rw [List.length_cons]; omega
    rw [e]
    exact List.take_of_length_le (by rw [List.length_drop]; omega)
theorem numbersOf_eval {line word : List Nat} (hl : line.length ≤ 16000000) : C2 m_numbers_of (some (xD line)) (some (xD word)) = some (rowD (rowO word line)) := by
  rw [c2_some]
  unfold m_numbers_of
  obtain ⟨h1, h2, h3⟩ := spl_sizes [32] line 0 []
  rw [lit_sp, splitX (sep := [32]) (by simp) (by rfl) hl, Option.map_some, Option.bind_some]
  unfold rowO
  obtain ⟨w, ws, e⟩ := List.exists_cons_of_ne_nil h2
  rw [e] at h1 h3 ⊢
  rw [drop1]
  have e2 : (some (PyData.list (((w :: ws).map xD).drop 1))).bind dItems = some (ws.map xD) := rfl
  have e3 := lcO_map (f := fun d => C1 m_number_of (some d)) (g := xD) (h := fun w => numD (numO w)) ws e2 (by rw [sizeX]; rw [List.length_cons] at h1; omega) fun x hx => numberOf_eval (by
    have := h3 x (List.mem_cons_of_mem _ hx)
    rw [List.length_nil] at this
    omega)
  rw [e3]
  have e4 : C1 dTup ((some (ws.map fun w => numD (numO w))).map PyData.list) = some (.tuple (ws.map fun w => numD (numO w))) := rfl
  rw [e4, Option.bind_some, none_in]
  have e5 : b2 dIx (some (PyData.list ((w :: ws).map xD))) (some (PyData.int 0)) = some (xD w) := ixL0 _ _
  rw [e5, eqX]
  show ifO (andO (some (decide (w = word))) (some (rowL ws).isSome)) _ _ = some (rowD (if w = word then rowL ws else none))
  by_cases hw : w = word
  · rw [decide_eq_true hw, if_pos hw]
    cases hr : rowL ws with
    | none => rfl
    | some ns =>
      rw [rowL_some hr]
      rfl
  · rw [decide_eq_false hw, if_neg hw]
    rfl
theorem cut_mid (xs : List D) : slO (some (.list xs)) ((some (PyData.int 1)).bind asI) (((some (PyData.int 1)).bind dNeg).bind asI) = some (.list ((xs.drop 1).dropLast)) := by
  show some (PyData.list (cutD xs (some 1) (some (-1)))) = _
  unfold cutD
  rw [show (1 : Int) = ((1 : Nat) : Int) from rfl, HT.sIx_nat]
  have e : HT.sIx xs.length xs.length (some (-((1 : Nat) : Int))) = xs.length - 1 := by
    show (if (-((1 : Nat) : Int)) < 0 then ((-((1 : Nat) : Int)) + (xs.length : Int)).toNat else min (-((1 : Nat) : Int)).toNat xs.length) = _
    rw [if_pos (by decide)]
    omega
  rw [e]
  congr 2
  rw [List.dropLast_eq_take, List.length_drop]
  cases xs with
  | nil => rfl
  | cons x xs =>
    have e2 : min 1 (x :: xs).length = 1 := by rw [List.length_cons]; omega
    rw [e2]
theorem cut_front (xs : List D) : slO (some (.list xs)) (some none) (((some (PyData.int 1)).bind dNeg).bind asI) = some (.list xs.dropLast) := by
  show some (PyData.list (cutD xs none (some (-1)))) = _
  unfold cutD
  have e : HT.sIx xs.length xs.length (some (-1)) = xs.length - 1 := by
    show (if (-1 : Int) < 0 then ((-1) + (xs.length : Int)).toNat else min (-1 : Int).toNat xs.length) = _
    rw [if_pos (by decide)]
    omega
  rw [e, HT.sIx_none, List.drop_zero, Nat.sub_zero, List.dropLast_eq_take]
theorem plainX : ∀ ys : List (List Nat), PyData.plainAll (ys.map xD) = true ∧ PyData.depthAll (ys.map xD) = 0
  | [] => ⟨rfl, rfl⟩
  | y :: ys => by
    obtain ⟨h1, h2⟩ := plainX ys
    rw [List.map_cons]
    exact ⟨by rw [PyData.plainAll, h1]; rfl, by rw [PyData.depthAll, h2]; rfl⟩
theorem neE (ys : List (List Nat)) : (b2 dNe (some (PyData.list (ys.map xD))) ((some []).map PyData.list)).bind asB = some (!decide (ys = [])) := by
  show (if eqOk (.list (ys.map xD)) (.list []) = true then some (PyData.bool (!PyData.eqv (.list (ys.map xD)) (.list []))) else none).bind asB = _
  obtain ⟨h1, h2⟩ := plainX ys
  rw [if_pos (by unfold eqOk; simp [PyData.plain, PyData.depth, h1, h2, PyData.plainAll, PyData.depthAll])]
  cases ys <;> rfl
theorem ixLast (ys : List (List Nat)) : b2 dIx (some (PyData.list (ys.map xD))) ((some (PyData.int 1)).bind dNeg) = ys.getLast?.map xD := by
  show atI (ys.map xD) (-1) = _
  rw [atLast, List.getLast?_map]
theorem max_lt (t : Int) : ∀ (ns : List Int) (a : Int), t < ns.foldl max a ↔ t < a ∨ ∃ x ∈ ns, t < x
  | [], a => by simp
  | n :: ns, a => by
    rw [List.foldl_cons, max_lt t ns]
    simp only [List.mem_cons, exists_eq_or_imp, ← or_assoc]
    refine or_congr ?_ Iff.rfl
    omega
theorem best_zero {dl : List Nat} (h : dl.length ≤ 16000000) : (b2 dGt (C1 (dBest max) (b2 dAdd (some (.tuple (ofN dl))) ((consO (some (PyData.int 0)) (some [])).map PyData.tuple))) (some (PyData.int 11))).bind asB = some (!decide (∀ d ∈ dl, d ≤ 11)) := by
  have e1 : b2 dAdd (some (.tuple (ofN dl))) ((consO (some (PyData.int 0)) (some [])).map PyData.tuple) = some (.tuple (ofN (dl ++ [0]))) := by
    show (if (ofN dl).length + [PyData.int 0].length ≤ sizeLine then some (PyData.tuple (ofN dl ++ [.int 0])) else none) = _
    rw [if_pos (by rw [ofN_len, sizeX, List.length_singleton]; omega)]
    unfold ofN
    rw [List.map_append]
    rfl
  have e2 : ∃ M : Int, C1 (dBest max) (some (.tuple (ofN (dl ++ [0])))) = some (.int M) ∧ (11 < M ↔ ∃ x : Nat, x ∈ dl ++ [0] ∧ 11 < x) := by
    show ∃ M : Int, (match intsOf (ofN (dl ++ [0])) with | some (n :: ns) => some (PyData.int (ns.foldl max n)) | _ => none) = _ ∧ _
    rw [ints_ofN]
    obtain ⟨c, r, hc⟩ := List.exists_cons_of_ne_nil (show dl ++ [0] ≠ [] by simp)
    rw [hc]
    refine ⟨_, rfl, ?_⟩
    rw [max_lt]
    constructor
    · rintro (h | ⟨x, hx, h⟩)
      · have h : (11 : Int) < (c : Int) := h
        exact ⟨c, List.mem_cons_self, by omega⟩
      · obtain ⟨y, hy, rfl⟩ := List.mem_map.mp hx
        have h : (11 : Int) < (y : Int) := h
        exact ⟨y, List.mem_cons_of_mem _ hy, by omega⟩
    · rintro ⟨x, hx, h⟩
      rcases List.mem_cons.mp hx with rfl | hx
      · exact .inl (show (11 : Int) < (x : Int) by omega)
      · exact .inr ⟨_, List.mem_map_of_mem hx, show (11 : Int) < (x : Int) by omega⟩
  obtain ⟨M, e3, e4⟩ := e2
  rw [e1, e3]
  show some (decide (11 < M)) = _
  congr 1
  rw [Bool.eq_iff_iff, decide_eq_true_eq, e4, Bool.not_eq_true', decide_eq_false_iff_not]
  simp only [List.mem_append, List.mem_singleton]
  constructor
  · rintro ⟨x, hx | rfl, h⟩
    · intro z
      have := z x hx
      omega
    · omega
  · intro z
    refine Classical.byContradiction fun z2 => z fun d hd => Classical.byContradiction fun z3 => z2 ⟨d, .inl hd, by omega⟩
theorem rowL_len : ∀ {ws : List (List Nat)} {ns : List Nat}, rowL ws = some ns → ns.length = ws.length
  | [], _, h => by cases h; rfl
  | w :: ws, _, h => by
    obtain ⟨n, h1, h⟩ := Option.bind_eq_some_iff.mp h
    obtain ⟨ns, h2, rfl⟩ := Option.map_eq_some_iff.mp h
    rw [List.length_cons, List.length_cons, rowL_len h2]
theorem rowO_len {word line ns : List Nat} (h : rowO word line = some ns) : ns.length ≤ line.length := by
  unfold rowO at h
  obtain ⟨h1, h2, _⟩ := spl_sizes [32] line 0 []
  obtain ⟨w, ws, e⟩ := List.exists_cons_of_ne_nil h2
  rw [e] at h h1
  have h : (if w = word then rowL ws else none) = some ns := h
  by_cases hw : w = word
  · rw [if_pos hw] at h
    rw [rowL_len h]
    rw [List.length_cons] at h1
    omega
  · rw [if_neg hw] at h
    cases h
def thP (n : Nat) (rest : List (List Nat)) : Option (List Nat) → Option (Nat × List (Option (List Nat)) × Option (List Nat))
  | some dl => if dl.length = n ∧ ∀ d ∈ dl, d ≤ 11 then some (n, rest.dropLast.map (rowO tiC), some dl) else none
  | none => none
def thR (n : Nat) (rest : List (List Nat)) : Option (List Nat) → Option (Nat × List (Option (List Nat)) × Option (List Nat))
  | some e => if (TL.spl [32] 0 [] e).head? = some paC then thP n rest (rowO paC e) else some (n, rest.map (rowO tiC), none)
  | none => some (n, [], none)
def thN (last : Option (List Nat)) (rest : List (List Nat)) : Option (List Nat) → Option (Nat × List (Option (List Nat)) × Option (List Nat))
  | some [n] => if last = some [] then thR n rest rest.getLast? else none
  | _ => none
def thO (a : List Nat) : Option (Nat × List (Option (List Nat)) × Option (List Nat)) := match TL.spl [10] 0 [] a with
  | [] => none
  | l0 :: r => thN (l0 :: r).getLast? r.dropLast (rowO plC l0)
def dlD : Option (List Nat) → D := rowD
def thD : Option (Nat × List (Option (List Nat)) × Option (List Nat)) → D
  | some x => .tuple [.tuple [.int (x.1 : Nat), .tuple (x.2.1.map rowD)], dlD x.2.2]
  | none => .none
theorem ties_told {rs : List (List Nat)} (hl : rs.length < 16777216) (h : ∀ x ∈ rs, x.length ≤ 16000000) : C1 dTup ((lcO ((some (PyData.list (rs.map xD))).bind dItems) fun line14 => turnO (some true) (C2 m_numbers_of (some line14) (some (PyData.str "tie")))).map PyData.list) = some (.tuple ((rs.map (rowO tiC)).map rowD)) := by
  have e := lcO_map (f := fun d => C2 m_numbers_of (some d) (some (PyData.str "tie"))) (g := xD) (h := fun x => rowD (rowO tiC x)) (oi := (some (PyData.list (rs.map xD))).bind dItems) rs rfl (by rw [sizeX]; exact hl) fun x hx => by
    rw [lit_ti]
    exact numbersOf_eval (h x hx)
  rw [e, List.map_map]
  rfl
theorem thingsOf_eval {a : List Nat} (ha : a.length ≤ 16000000) : C1 m_things_of (some (xD a)) = some (thD (thO a)) := by
  rw [c1_some]
  unfold m_things_of
  obtain ⟨h1, h2, h3⟩ := spl_sizes [10] a 0 []
  rw [lit_nl, splitX (sep := [10]) (by simp) (by rfl) ha, Option.map_some, Option.bind_some]
  unfold thO
  obtain ⟨l0, r, e⟩ := List.exists_cons_of_ne_nil h2
  rw [e] at h1 h3 ⊢
  refine (?_ : _ = some (thD (thN (l0 :: r).getLast? r.dropLast (rowO plC l0))))
  have h4 : ∀ x ∈ l0 :: r, x.length ≤ 16000000 := fun x hx => by
    have := h3 x hx
    rw [List.length_nil] at this
    omega
  rw [List.map_cons, ixL0, lit_pl, numbersOf_eval (h4 l0 List.mem_cons_self), Option.bind_some, ← List.map_cons, ixLast, lit_e]
  obtain ⟨z, hz⟩ : ∃ z, (l0 :: r).getLast? = some z := ⟨_, List.getLast?_eq_some_getLast (by simp)⟩
  rw [hz, Option.map_some, neX]
  cases hf : rowO plC l0 with
  | none =>
    show ifO (orO (some (!decide (z = []))) _) _ _ = _
    cases decide (z = []) <;> rfl
  | some ns =>
    have e5 : b2 (dIsN false) (some (rowD (some ns))) (some PyData.none) = some (.bool false) := rfl
    have e6 : (b2 dNe (C1 dLen (some (rowD (some ns)))) (some (PyData.int 1))).bind asB = some (decide (ns.length ≠ 1)) := by
      show (b2 dNe (C1 dLen (some (.tuple (ofN ns)))) (some (PyData.int 1))).bind asB = _
      rw [len_tup]
      exact congrArg (·.bind asB) (ne_nat ns.length 1)
    rw [e5, e6]
    by_cases hn : ns.length = 1
    · match ns, hn, hf with
      | [n], _, hf =>
        by_cases hzz : z = []
        · subst hzz
          have ez : (some ([] : List Nat) = some []) := rfl
          show ifO (some false) _ _ = some (thD (if some ([] : List Nat) = some [] then thR n r.dropLast r.dropLast.getLast? else none))
          rw [ifO_ff, if_pos ez, cut_mid]
          have e7 : (((l0 :: r).map xD).drop 1).dropLast = r.dropLast.map xD := by
            rw [List.map_cons, List.drop_one, List.tail_cons, ← List.map_dropLast]
          rw [e7]
          have hr : r.dropLast.length ≤ a.length := by rw [List.length_dropLast]; rw [List.length_cons] at h1; omega
          have h5 : ∀ x ∈ r.dropLast, x.length ≤ 16000000 := fun x hx => h4 x (List.mem_cons_of_mem _ (List.dropLast_subset _ hx))
          generalize r.dropLast = rest at hr h5
          show ifO (andO ((b2 dNe (some (PyData.list (rest.map xD))) ((some []).map PyData.list)).bind asB) ((b2 dEq (b2 dIx ((splO (b2 dIx (some (PyData.list (rest.map xD))) ((some (PyData.int 1)).bind dNeg)) (some (PyData.str " "))).map PyData.list) (some (PyData.int 0))) (some (PyData.str "parts"))).bind asB)) _ _ = _
          rw [neE, ixLast]
          cases hg : rest.getLast? with
          | none =>
            have : rest = [] := List.getLast?_eq_none_iff.mp hg
            subst this
            rfl
          | some e =>
            have hne : rest ≠ [] := fun z => by rw [z] at hg; cases hg
            have he : e ∈ rest := List.mem_of_getLast? hg
            rw [decide_eq_false hne, Option.map_some, lit_sp, splitX (sep := [32]) (by simp) (by rfl) (h5 e he), Option.map_some]
            obtain ⟨_, g2, _⟩ := spl_sizes [32] e 0 []
            obtain ⟨w, ws, ew⟩ := List.exists_cons_of_ne_nil g2
            rw [ew, List.map_cons, ixL0, lit_pa, eqX]
            show ifO (some (decide (w = paC))) _ _ = some (thD (if (TL.spl [32] 0 [] e).head? = some paC then thP n rest (rowO paC e) else some (n, rest.map (rowO tiC), none)))
            rw [ew, List.head?_cons]
            by_cases hw : w = paC
            · rw [decide_eq_true hw, ifO_tt, if_pos (by rw [hw]), numbersOf_eval (h5 e he), cut_front, ← List.map_dropLast]
              cases hd : rowO paC e with
              | none => rfl
              | some dl =>
                have hdl := rowO_len hd
                have h6 := h5 e he
                have e8 : (b2 dNe (C1 dLen (some (rowD (some dl)))) (b2 dIx (some (rowD (some [n]))) (some (PyData.int 0)))).bind asB = some (decide (dl.length ≠ n)) := by
                  show (b2 dNe (C1 dLen (some (.tuple (ofN dl)))) (some (PyData.int n))).bind asB = _
                  rw [len_tup]
                  exact congrArg (·.bind asB) (ne_nat dl.length n)
                have e9 := best_zero (dl := dl) (by omega)
                show ifO (orO (some false) (orO ((b2 dNe (C1 dLen (some (rowD (some dl)))) (b2 dIx (some (rowD (some [n]))) (some (PyData.int 0)))).bind asB) ((b2 dGt (C1 (dBest max) (b2 dAdd (some (.tuple (ofN dl))) ((consO (some (PyData.int 0)) (some [])).map PyData.tuple))) (some (PyData.int 11))).bind asB))) _ _ = some (thD (if dl.length = n ∧ ∀ d ∈ dl, d ≤ 11 then some (n, rest.dropLast.map (rowO tiC), some dl) else none))
                rw [e8, e9]
                by_cases c1 : dl.length = n
                · by_cases c2 : ∀ d ∈ dl, d ≤ 11
                  · rw [if_pos ⟨c1, c2⟩, decide_eq_true c2, decide_eq_false (fun z => z c1)]
                    show ((consO ((consO (some (PyData.int n)) (consO (C1 dTup ((lcO ((some (PyData.list (rest.dropLast.map xD))).bind dItems) fun line14 => turnO (some true) (C2 m_numbers_of (some line14) (some (PyData.str "tie")))).map PyData.list)) (some []))).map PyData.tuple) (consO (some (rowD (some dl))) (some []))).map PyData.tuple) = _
                    rw [ties_told (by rw [List.length_dropLast]; omega) fun x hx => h5 x (List.dropLast_subset _ hx)]
                    rfl
                  · rw [if_neg (fun z => c2 z.2), decide_eq_false c2, decide_eq_false (fun z => z c1)]
                    rfl
                · rw [if_neg (fun z => c1 z.1), decide_eq_true c1]
                  rfl
            · rw [decide_eq_false hw, ifO_ff, if_neg (fun z => hw (Option.some.inj z))]
              show ((consO ((consO (some (PyData.int n)) (consO (C1 dTup ((lcO ((some (PyData.list (rest.map xD))).bind dItems) fun line14 => turnO (some true) (C2 m_numbers_of (some line14) (some (PyData.str "tie")))).map PyData.list)) (some []))).map PyData.tuple) (consO (some PyData.none) (some []))).map PyData.tuple) = _
              rw [ties_told (by omega) h5]
              rfl
        · show ifO (orO (some (!decide (z = []))) _) _ _ = some (thD (if some z = some [] then thR n r.dropLast r.dropLast.getLast? else none))
          rw [decide_eq_false hzz, if_neg (fun e => hzz (Option.some.inj e))]
          rfl
    · rw [decide_eq_true hn]
      have e10 : ∀ b : Bool, ifO (orO (some (!b)) (orO (some false) (some true))) (some PyData.none) (none : Option D) = some PyData.none := fun b => by cases b <;> rfl
      match ns, hn with
      | [], _ => cases decide (z = []) <;> rfl
      | [_], h => exact absurd rfl h
      | _ :: _ :: _, _ => cases decide (z = []) <;> rfl
def isTwo : D → Bool
  | .tuple ds => decide (ds.length = 2)
  | _ => false
def tieB (n : Nat) (v : D) : Bool := lotB n v && isTwo v
theorem eq_two (a : Nat) : b2 dEq (some (PyData.int a)) (some (PyData.int 2)) = some (.bool (decide (a = 2))) := eq_nat a 2
theorem ne_two (a : Nat) : (b2 dNe (some (PyData.int a)) (some (PyData.int 2))).bind asB = some (decide (a ≠ 2)) := congrArg (·.bind asB) (ne_nat a 2)
theorem tie_any (n : Nat) {o : Option D} {v : D} (ho : o = some (.bool (lotB n v))) : andV o (b2 dEq (C1 dLen (some v)) (some (PyData.int 2))) = some (.bool (tieB n v)) := by
  rw [ho]
  cases v with
  | tuple ds =>
    rw [len_tupD, eq_two]
    unfold tieB
    cases lotB n (.tuple ds) <;> rfl
  | _ => rfl
theorem isTie_eval (n : Nat) {v : D} (h : Fine v) : C2 m_is_tie (some (.int (n : Nat))) (some v) = some (.bool (tieB n v)) := by
  rw [c2_some]
  unfold m_is_tie
  exact tie_any n (isLot_eval n h)
theorem lot_row {n : Nat} {v : D} (h : lotB n v = true) : ∃ l : List Int, v = tupD l := by
  cases v with
  | tuple ds =>
    rw [lotB_eq, Bool.and_eq_true] at h
    obtain ⟨ns, rfl⟩ := all_ints (fun _ => pl_int) h.1
    exact ⟨ns, rfl⟩
  | _ => cases h
theorem tie_rowsW {n : Nat} : ∀ {ds : List D}, ds.all (tieB n) = true → ∃ ls : List (List Int), ds = ls.map tupD
  | [], _ => ⟨[], rfl⟩
  | d :: ds, h => by
    simp only [List.all_cons, Bool.and_eq_true] at h
    obtain ⟨l, rfl⟩ := lot_row (n := n) (Bool.and_eq_true_iff.mp h.1).1
    obtain ⟨ls, rfl⟩ := tie_rowsW h.2
    exact ⟨l :: ls, rfl⟩
def risesR (ds : List D) : Bool := match rowsD ds with
  | some ls => risesB HT.lexLt ls
  | none => false
theorem risesR_rows (ls : List (List Int)) : risesR (ls.map tupD) = risesB HT.lexLt ls := by
  unfold risesR
  rw [rowsD_map]
def webB2 (i : Int) : D → Bool
  | .tuple ties => ties.all (tieB i.toNat) && risesR ties
  | _ => false
def webB1 : D → D → Bool
  | .int i, b => decide (1 ≤ i ∧ i ≤ 12) && webB2 i b
  | _, _ => false
def webB : D → Bool
  | .tuple [a, b] => webB1 a b
  | _ => false
theorem chain_12 (i : Int) : (chainO dLe dLe (some (PyData.int 1)) (some (PyData.int i)) (some (PyData.int 12))).bind asB = some (decide (1 ≤ i ∧ i ≤ 12)) := by
  show (((some (PyData.bool (decide (1 ≤ i)))).bind asB).bind (fun t => if t = true then some (PyData.bool (decide (i ≤ 12))) else some (.bool false))).bind asB = _
  show (if decide (1 ≤ i) = true then some (PyData.bool (decide (i ≤ 12))) else some (.bool false)).bind asB = _
  by_cases h : 1 ≤ i
  · rw [if_pos (decide_eq_true h)]
    simp [h, asB]
  · rw [if_neg (by simpa using h)]
    simp [h, asB]
theorem isWeb_eval {v : D} (h : Fine v) : C1 m_is_web (some v) = some (.bool (webB v)) := by
  rw [c1_some]
  unfold m_is_web
  cases v with
  | tuple vs =>
    rw [len_tupD, ne_two]
    by_cases h2 : vs.length = 2
    · match vs, h2, h with
      | [a, b], _, h =>
        have hb : Fine b := h.mem (List.mem_cons_of_mem _ List.mem_cons_self)
        have e1 : b2 dIx (some (PyData.tuple [a, b])) (some (PyData.int 0)) = some a := rfl
        rw [e1, isInt_eval]
        cases a with
        | int i =>
          have e0 : webB (.tuple [.int i, b]) = (decide (1 ≤ i ∧ i ≤ 12) && webB2 i b) := rfl
          rw [e0]
          refine (?_ : ifO (orO (((chainO dLe dLe (some (PyData.int 1)) (some (PyData.int i)) (some (PyData.int 12))).bind asB).map (!·)) ((((some b).map fun d => PyData.bool (isTy "tuple" d)).bind asT).map (!·))) (some (PyData.bool false)) (andV (C1 dAll ((lcO ((some b).bind dItems) fun tie4 => turnO (some true) (C2 m_is_tie (some (PyData.int i)) (some tie4))).map PyData.list)) (C1 m_is_rising (some b))) = some (PyData.bool _))
          rw [chain_12]
          by_cases hi : 1 ≤ i ∧ i ≤ 12
          · rw [decide_eq_true hi]
            cases b with
            | tuple ties =>
              obtain ⟨n, rfl⟩ := Int.eq_ofNat_of_zero_le (show 0 ≤ i by omega)
              obtain ⟨l1, _⟩ := hb.short
              have e2 : lcO ((some (PyData.tuple ties)).bind dItems) (fun tie4 => turnO (some true) (C2 m_is_tie (some (PyData.int (n : Nat))) (some tie4))) = some (ties.map fun x => .bool (tieB n x)) := lcO_bools ties rfl l1 fun x hx => isTie_eval n (hb.mem hx)
              rw [e2, all_eval]
              have e3 : webB2 ((n : Nat) : Int) (.tuple ties) = (ties.all (tieB n) && risesR ties) := by
                show (ties.all (tieB ((n : Nat) : Int).toNat) && risesR ties) = _
                rw [Int.toNat_natCast]
              rw [e3]
              cases hA : ties.all (tieB n) with
              | false => rfl
              | true =>
                obtain ⟨ls, rfl⟩ := tie_rowsW hA
                rw [rising_eval lt_rows (by rwa [List.length_map] at l1), risesR_rows]
                rfl
            | _ => rfl
          · rw [decide_eq_false hi]
            rfl
        | _ => rfl
    · rw [decide_eq_true h2]
      match vs, h2 with
      | [], _ => rfl
      | [_], _ => rfl
      | [_, _], h2 => exact absurd rfl h2
      | _ :: _ :: _ :: _, _ => rfl
  | _ => rfl

section
variable {n : Nat} {ts : List (Nat × Nat)}
theorem fine_web (W : Wb n ts) : Fine (webD n ts) := by
  obtain ⟨h1, h2, h3⟩ := nice_web W
  exact ⟨h1, by omega, by omega⟩
theorem tie_true {p : Nat × Nat} (h : p.1 < p.2 ∧ p.2 < n) : tieB n (tieD p) = true := by
  have e : tieD p = .tuple (ofN [p.1, p.2]) := rfl
  rw [e]
  unfold tieB
  rw [lotB_asc (n := n) (L := [p.1, p.2]) (List.pairwise_cons.mpr ⟨fun x hx => by rw [List.mem_singleton.mp hx]; exact h.1, List.pairwise_singleton _ _⟩) fun x hx => by
    rcases List.mem_cons.mp hx with rfl | hx
    · omega
    · rw [List.mem_singleton.mp hx]; exact h.2]
  rfl
theorem webB_true (W : Wb n ts) : webB (webD n ts) = true := by
  show (decide (1 ≤ (n : Int) ∧ (n : Int) ≤ 12) && (((ts.map tieD).all (tieB (n : Int).toNat)) && risesR (ts.map tieD))) = true
  have h1 := W.lo
  have h2 := W.hi
  rw [decide_eq_true (by omega), Int.toNat_natCast, Bool.true_and]
  have e1 : (ts.map tieD).all (tieB n) = true := List.all_eq_true.mpr fun d hd => by
    obtain ⟨p, hp, rfl⟩ := List.mem_map.mp hd
    exact tie_true (W.ord p hp)
  have e2 : ts.map tieD = (ts.map fun p => [(p.1 : Int), (p.2 : Int)]).map tupD := by
    rw [List.map_map]
    rfl
  rw [e1, e2, risesR_rows, Bool.true_and]
  refine rises_pw (List.pairwise_map.mpr (W.asc.imp fun {p q} h => ?_))
  show (if (p.1 : Int) = (q.1 : Int) then HT.lexLt [(p.2 : Int)] [(q.2 : Int)] else decide ((p.1 : Int) < (q.1 : Int))) = true
  by_cases c : p.1 = q.1
  · rw [if_pos (by omega)]
    show (if (p.2 : Int) = (q.2 : Int) then _ else decide ((p.2 : Int) < (q.2 : Int))) = true
    rw [if_neg (by omega)]
    exact decide_eq_true (by omega)
  · rw [if_neg (by omega)]
    exact decide_eq_true (by omega)
def lineC (w : List Nat) (ns : List Nat) : List Nat := TL.joinL [32] (w :: ns.map TL.numL)
def partC : Option (List Nat) → List (List Nat)
  | some l => [lineC paC l]
  | none => []
def linesC (n : Nat) (ts : List (Nat × Nat)) (dl : Option (List Nat)) : List (List Nat) := lineC plC [n] :: (ts.map (fun t => lineC tiC [t.1, t.2]) ++ partC dl)
def txtC (n : Nat) (ts : List (Nat × Nat)) (dl : Option (List Nat)) : List Nat := ((linesC n ts dl).map (· ++ [10])).flatten
theorem joinL_len (S : List Nat) : ∀ ys : List (List Nat), (TL.joinL S ys).length ≤ (ys.map (·.length)).sum + ys.length * S.length
  | [] => Nat.zero_le _
  | [y] => by
    show y.length ≤ _
    rw [List.map_cons, List.sum_cons]
    omega
  | y :: z :: r => by
    show (y ++ (S ++ TL.joinL S (z :: r))).length ≤ _
    have ih := joinL_len S (z :: r)
    rw [List.length_append, List.length_append, List.map_cons, List.sum_cons, List.length_cons, Nat.succ_mul]
    omega
theorem joinL_nil : ∀ ys : List (List Nat), TL.joinL [] ys = ys.flatten
  | [] => rfl
  | [y] => by
    show y = _
    rw [List.flatten_cons, List.flatten_nil, List.append_nil]
  | y :: z :: r => by
    show y ++ ([] ++ TL.joinL [] (z :: r)) = _
    rw [joinL_nil (z :: r), List.nil_append]
    rfl
theorem sum_le {B : Nat} : ∀ ys : List (List Nat), (∀ y ∈ ys, y.length ≤ B) → (ys.map (·.length)).sum ≤ ys.length * B
  | [], _ => Nat.zero_le _
  | y :: r, h => by
    have h1 := h y List.mem_cons_self
    have h2 := sum_le r fun z hz => h z (List.mem_cons_of_mem _ hz)
    rw [List.map_cons, List.sum_cons, List.length_cons, Nat.succ_mul]
    omega
def Small (ns : List Nat) : Prop := ns.length ≤ 12 ∧ ∀ x ∈ ns, x < 100
theorem words_len {w ns : List Nat} (hw : w.length ≤ 7) (h : Small ns) : ((w :: ns.map TL.numL).map (·.length)).sum + (w :: ns.map TL.numL).length * 1 ≤ 100 := by
  have h1 := sum_le (B := 2) (ns.map TL.numL) fun y hy => by
    obtain ⟨x, hx, rfl⟩ := List.mem_map.mp hy
    exact TL.numL_len (k := 2) (by decide) (h.2 x hx)
  have h2 := h.1
  rw [List.map_cons, List.sum_cons, List.length_cons]
  rw [List.length_map] at h1 ⊢
  omega
theorem lineC_len {w ns : List Nat} (hw : w.length ≤ 7) (h : Small ns) : (lineC w ns).length ≤ 100 := Nat.le_trans (joinL_len [32] _) (words_len hw h)
theorem nums_told {ns : List Nat} (h : Small ns) : lcO (some (ofN ns)) (fun d => turnO (some true) (C1 dStr (some d))) = some ((ns.map TL.numL).map xD) := by
  have e := lcO_map (f := fun d => C1 dStr (some d)) (g := fun (i : Nat) => PyData.int i) (h := fun i => xD (TL.numL i)) (oi := some (ofN ns)) ns rfl (by rw [sizeX]; have := h.1; omega) fun x hx => strX (h.2 x hx)
  rw [e, List.map_map]
  rfl
theorem lineOf_eval {w ns : List Nat} (hw : w.length ≤ 7) (h : Small ns) : C2 m_line_of (some (xD w)) (some (.tuple (ofN ns))) = some (xD (lineC w ns ++ [10])) := by
  rw [c2_some]
  unfold m_line_of
  have e0 : (some (PyData.tuple (ofN ns))).bind dItems = some (ofN ns) := rfl
  have e1 : b2 dAdd ((consO (some (xD w)) (some [])).map PyData.list) (some (.list ((ns.map TL.numL).map xD))) = some (.list ((w :: ns.map TL.numL).map xD)) := by
    show (if [xD w].length + ((ns.map TL.numL).map xD).length ≤ sizeLine then some (PyData.list ([xD w] ++ (ns.map TL.numL).map xD)) else none) = _
    rw [if_pos (by rw [List.length_map, List.length_map, sizeX, List.length_singleton]; have := h.1; omega)]
    rfl
  rw [e0, nums_told h, Option.map_some, e1, lit_sp, lit_nl, joinX [32] _ (Nat.le_trans (words_len hw h) (by decide)), addX (by rw [List.length_singleton]; have := lineC_len hw h; unfold lineC at this; omega)]
  rfl
theorem small_one {n : Nat} (h : n < 100) : Small [n] := ⟨by simp, fun x hx => by rw [List.mem_singleton.mp hx]; exact h⟩
theorem small_tie (W : Wb n ts) {p : Nat × Nat} (hp : p ∈ ts) : Small [p.1, p.2] := ⟨by simp, fun x hx => by
  have := W.ord p hp
  have := W.hi
  simp only [List.mem_cons, List.not_mem_nil, or_false] at hx
  omega⟩
def OkD (n : Nat) (dl : Option (List Nat)) : Prop := ∀ l, dl = some l → l.length = n ∧ ∀ d ∈ l, d ≤ 11
theorem OkD.small {n : Nat} (hn : n ≤ 12) {l : List Nat} (h : OkD n (some l)) : Small l := ⟨by rw [(h l rfl).1]; exact hn, fun x hx => by have := (h l rfl).2 x hx; omega⟩
theorem lines_len (W : Wb n ts) {dl : Option (List Nat)} (h : OkD n dl) : (linesC n ts dl).length ≤ 102 ∧ ∀ y ∈ linesC n ts dl, y.length ≤ 100 := by
  have hn := W.hi
  have hf := W.few
  constructor
  · unfold linesC
    rw [List.length_cons, List.length_append, List.length_map]
    cases dl <;> simp only [partC, List.length_nil, List.length_singleton] <;> omega
  · intro y hy
    rcases List.mem_cons.mp hy with rfl | hy
    · exact lineC_len (by decide) (small_one (by omega))
    · rcases List.mem_append.mp hy with hy | hy
      · obtain ⟨p, hp, rfl⟩ := List.mem_map.mp hy
        exact lineC_len (by decide) (small_tie W hp)
      · cases dl with
        | none => cases hy
        | some l =>
          rw [List.mem_singleton.mp hy]
          exact lineC_len (by decide) (h.small hn)
theorem txt_sum (W : Wb n ts) {dl : Option (List Nat)} (h : OkD n dl) : (((linesC n ts dl).map (· ++ [10])).map (·.length)).sum + ((linesC n ts dl).map (· ++ [10])).length * 0 ≤ 16777216 := by
  obtain ⟨h1, h2⟩ := lines_len W h
  have := sum_le (B := 101) ((linesC n ts dl).map (· ++ [10])) fun y hy => by
    obtain ⟨z, hz, rfl⟩ := List.mem_map.mp hy
    rw [List.length_append, List.length_singleton]
    have := h2 z hz
    omega
  rw [List.length_map] at this
  omega
theorem txt_len (W : Wb n ts) {dl : Option (List Nat)} (h : OkD n dl) : (txtC n ts dl).length ≤ 16000000 := by
  obtain ⟨h1, h2⟩ := lines_len W h
  have := sum_le (B := 101) ((linesC n ts dl).map (· ++ [10])) fun y hy => by
    obtain ⟨z, hz, rfl⟩ := List.mem_map.mp hy
    rw [List.length_append, List.length_singleton]
    have := h2 z hz
    omega
  rw [List.length_map] at this
  unfold txtC
  rw [List.length_flatten]
  exact Nat.le_trans this (by omega)
theorem writeWeb_eval (W : Wb n ts) {dl : Option (List Nat)} (h : OkD n dl) : C2 m_write_web (some (webD n ts)) (some (rowD dl)) = some (xD (txtC n ts dl)) := by
  rw [c2_some]
  unfold m_write_web
  have hn := W.hi
  have hf := W.few
  have e1 : C2 m_line_of (some (PyData.str "places")) ((consO (some (PyData.int (n : Nat))) (some [])).map PyData.tuple) = some (xD (lineC plC [n] ++ [10])) := by
    rw [lit_pl]
    exact lineOf_eval (w := plC) (ns := [n]) (by decide) (small_one (by omega))
  have e2 : lcO ((some (PyData.tuple (ts.map tieD))).bind dItems) (fun tie6 => turnO (some true) (C2 m_line_of (some (PyData.str "tie")) (some tie6))) = some ((ts.map (fun t => lineC tiC [t.1, t.2] ++ [10])).map xD) := by
    have e := lcO_map (f := fun d => C2 m_line_of (some (PyData.str "tie")) (some d)) (g := tieD) (h := fun t => xD (lineC tiC [t.1, t.2] ++ [10])) (oi := (some (PyData.tuple (ts.map tieD))).bind dItems) ts rfl (by rw [sizeX]; omega) fun x hx => by
      rw [lit_ti]
      exact lineOf_eval (w := tiC) (ns := [x.1, x.2]) (by decide) (small_tie W hx)
    rw [e, List.map_map]
    rfl
  show ((b2 dAdd ((consO (C2 m_line_of (some (PyData.str "places")) ((consO (some (PyData.int (n : Nat))) (some [])).map PyData.tuple)) (some [])).map PyData.list) ((lcO ((some (PyData.tuple (ts.map tieD))).bind dItems) fun tie6 => turnO (some true) (C2 m_line_of (some (PyData.str "tie")) (some tie6))).map PyData.list)).bind fun lines5 => (joiO (some (PyData.str "")) (b2 dAdd (some lines5) ((ifO ((b2 (dIsN true) (some (rowD dl)) (some PyData.none)).bind asB) (consO (C2 m_line_of (some (PyData.str "parts")) (some (rowD dl))) (some [])) (some [])).map PyData.list)))) = _
  rw [e1, e2]
  have e3 : b2 dAdd ((consO (some (xD (lineC plC [n] ++ [10]))) (some [])).map PyData.list) ((some ((ts.map (fun t => lineC tiC [t.1, t.2] ++ [10])).map xD)).map PyData.list) = some (.list ((((lineC plC [n] :: ts.map fun t => lineC tiC [t.1, t.2])).map (· ++ [10])).map xD)) := by
    show (if [xD (lineC plC [n] ++ [10])].length + ((ts.map (fun t => lineC tiC [t.1, t.2] ++ [10])).map xD).length ≤ sizeLine then some (PyData.list ([xD (lineC plC [n] ++ [10])] ++ (ts.map (fun t => lineC tiC [t.1, t.2] ++ [10])).map xD)) else none) = _
    rw [if_pos (by rw [List.length_map, List.length_map, sizeX, List.length_singleton]; omega)]
    simp only [List.map_cons, List.map_map, List.singleton_append]
    rfl
  have e4 : (ifO ((b2 (dIsN true) (some (rowD dl)) (some PyData.none)).bind asB) (consO (C2 m_line_of (some (PyData.str "parts")) (some (rowD dl))) (some [])) (some [])) = some (((partC dl).map (· ++ [10])).map xD) := by
    cases dl with
    | none => rfl
    | some l =>
      show ifO (some true) (consO (C2 m_line_of (some (PyData.str "parts")) (some (.tuple (ofN l)))) (some [])) _ = _
      rw [ifO_tt, lit_pa, lineOf_eval (w := paC) (by decide) (h.small hn)]
      rfl
  have e5 : b2 dAdd (some (.list ((((lineC plC [n] :: ts.map fun t => lineC tiC [t.1, t.2])).map (· ++ [10])).map xD))) (some (.list (((partC dl).map (· ++ [10])).map xD))) = some (.list (((linesC n ts dl).map (· ++ [10])).map xD)) := by
    have := (lines_len W h).1
    unfold linesC at this
    rw [List.length_cons, List.length_append, List.length_map] at this
    show (if _ + _ ≤ sizeLine then some (PyData.list (_ ++ _)) else none) = _
    rw [if_pos (by rw [List.length_map, List.length_map, List.length_map, List.length_map, sizeX, List.length_cons, List.length_map]; omega)]
    unfold linesC
    rw [← List.map_append, ← List.map_append]
    rfl
  rw [e3, Option.bind_some, e4, Option.map_some, e5, lit_e, joinX [] _ (txt_sum W h), joinL_nil]
  rfl
theorem lawText_eval (W : Wb n ts) {dl : Option (List Nat)} (h : OkD n dl) : C2 m__law_text (some (webD n ts)) (some (rowD dl)) = some (xD (txtC n ts dl)) := by
  rw [c2_some]
  unfold m__law_text
  have hn := W.hi
  have hf := W.few
  have e0 : b2 dIx (some (webD n ts)) (some (PyData.int 0)) = some (.int (n : Nat)) := rfl
  have e1 : b2 dAdd (some (PyData.str "places ")) (C1 dStr (b2 dIx (some (webD n ts)) (some (PyData.int 0)))) = some (xD (lineC plC [n])) := by
    have hl := TL.numL_len (n := n) (k := 2) (by decide) (by omega)
    rw [e0, strX (by omega), lit_pls, addX (by show 7 + (TL.numL n).length ≤ _; omega)]
    rfl
  have e2 : (b2 dIx (some (webD n ts)) (some (PyData.int 1))).bind dItems = some (ts.map tieD) := rfl
  have e3 : lcO ((b2 dIx (some (webD n ts)) (some (PyData.int 1))).bind dItems) (fun d => un2 d fun a4 b5 => turnO (some true) (b2 dAdd (b2 dAdd (b2 dAdd (some (PyData.str "tie ")) (C1 dStr (some a4))) (some (PyData.str " "))) (C1 dStr (some b5)))) = some ((ts.map (fun t => lineC tiC [t.1, t.2])).map xD) := by
    rw [e2]
    show (if (ts.map tieD).length < sizeLine then cO (fun d => un2 d fun a4 b5 => turnO (some true) (b2 dAdd (b2 dAdd (b2 dAdd (some (PyData.str "tie ")) (C1 dStr (some a4))) (some (PyData.str " "))) (C1 dStr (some b5)))) (ts.map tieD) else none) = _
    rw [if_pos (by rw [List.length_map, sizeX]; omega)]
    have key : ∀ us : List (Nat × Nat), (∀ p ∈ us, p ∈ ts) → cO (fun d => un2 d fun a4 b5 => turnO (some true) (b2 dAdd (b2 dAdd (b2 dAdd (some (PyData.str "tie ")) (C1 dStr (some a4))) (some (PyData.str " "))) (C1 dStr (some b5)))) (us.map tieD) = some ((us.map (fun t => lineC tiC [t.1, t.2])).map xD) := by
      intro us
      induction us with
      | nil => intro _; rfl
      | cons p us ih =>
        intro hu
        have W2 := W.ord p (hu p List.mem_cons_self)
        have a1 := TL.numL_len (n := p.1) (k := 2) (by decide) (by omega)
        have a2 := TL.numL_len (n := p.2) (k := 2) (by decide) (by omega)
        have e : b2 dAdd (b2 dAdd (b2 dAdd (some (PyData.str "tie ")) (C1 dStr (some (.int (p.1 : Nat))))) (some (PyData.str " "))) (C1 dStr (some (.int (p.2 : Nat)))) = some (xD (lineC tiC [p.1, p.2])) := by
          rw [strX (by omega), strX (by omega), lit_tis, lit_sp, addX (by show 4 + (TL.numL p.1).length ≤ _; omega), addX (by rw [List.length_append]; show 4 + (TL.numL p.1).length + 1 ≤ _; omega), addX (by rw [List.length_append, List.length_append]; show 4 + (TL.numL p.1).length + 1 + (TL.numL p.2).length ≤ _; omega)]
          congr 2
          show tiC ++ [32] ++ TL.numL p.1 ++ [32] ++ TL.numL p.2 = tiC ++ ([32] ++ (TL.numL p.1 ++ ([32] ++ TL.numL p.2)))
          simp only [List.append_assoc]
        show (turnO (some true) (b2 dAdd (b2 dAdd (b2 dAdd (some (PyData.str "tie ")) (C1 dStr (some (.int (p.1 : Nat))))) (some (PyData.str " "))) (C1 dStr (some (.int (p.2 : Nat)))))).bind (fun o => (cO _ (us.map tieD)).bind fun r => some (match o with | some x => x :: r | none => r)) = _
        rw [e, ih fun q hq => hu q (List.mem_cons_of_mem _ hq)]
        rfl
    exact key ts fun p hp => hp
  rw [e1, e3]
  have e4 : C2 dCatL ((consO (some (xD (lineC plC [n]))) (some [])).map PyData.list) ((some ((ts.map (fun t => lineC tiC [t.1, t.2])).map xD)).map PyData.list) = some ((lineC plC [n] :: ts.map fun t => lineC tiC [t.1, t.2]).map xD) := by
    show (if [xD (lineC plC [n])].length + ((ts.map (fun t => lineC tiC [t.1, t.2])).map xD).length ≤ sizeLine then some ([xD (lineC plC [n])] ++ (ts.map (fun t => lineC tiC [t.1, t.2])).map xD) else none) = _
    rw [if_pos (by rw [List.length_map, List.length_map, sizeX, List.length_singleton]; omega)]
    rfl
  rw [e4, Option.bind_some]
  have fin : joiO (some (PyData.str "")) ((lcO ((some (PyData.list ((linesC n ts dl).map xD))).bind dItems) fun line10 => turnO (some true) (b2 dAdd (some line10) (some (PyData.str "\n")))).map PyData.list) = some (xD (txtC n ts dl)) := by
    obtain ⟨h1, h2⟩ := lines_len W h
    have e := lcO_map (f := fun d => b2 dAdd (some d) (some (PyData.str "\n"))) (g := xD) (h := fun l => xD (l ++ [10])) (oi := (some (PyData.list ((linesC n ts dl).map xD))).bind dItems) (linesC n ts dl) rfl (by rw [sizeX]; omega) fun x hx => by
      rw [lit_nl]
      exact addX (by rw [List.length_singleton]; have := h2 x hx; omega)
    have e2 : (linesC n ts dl).map (fun l => xD (l ++ [10])) = ((linesC n ts dl).map (· ++ [10])).map xD := by rw [List.map_map]; rfl
    rw [e, e2, Option.map_some, lit_e, joinX [] _ (txt_sum W h), joinL_nil]
    rfl
  cases dl with
  | none =>
    have e5 : (lineC plC [n] :: ts.map fun t => lineC tiC [t.1, t.2]) = linesC n ts none := by
      unfold linesC
      rw [show partC none = [] from rfl, List.append_nil]
    rw [e5]
    exact fin
  | some l =>
    have hs := h.small hn
    have e6 : joiO (some (PyData.str " ")) ((C2 dCatL ((consO (some (PyData.str "parts")) (some [])).map PyData.list) ((lcO ((some (PyData.tuple (ofN l))).bind dItems) fun i8 => turnO (some true) (C1 dStr (some i8))).map PyData.list)).map PyData.list) = some (xD (lineC paC l)) := by
      have e0 : (some (PyData.tuple (ofN l))).bind dItems = some (ofN l) := rfl
      have e7 : C2 dCatL ((consO (some (PyData.str "parts")) (some [])).map PyData.list) (some (.list ((l.map TL.numL).map xD))) = some ((paC :: l.map TL.numL).map xD) := by
        rw [lit_pa]
        show (if [xD paC].length + ((l.map TL.numL).map xD).length ≤ sizeLine then some ([xD paC] ++ (l.map TL.numL).map xD) else none) = _
        rw [if_pos (by rw [List.length_map, List.length_map, sizeX, List.length_singleton]; have := hs.1; omega)]
        rfl
      rw [e0, nums_told hs, Option.map_some, e7, Option.map_some, lit_sp, joinX [32] _ (Nat.le_trans (words_len (by decide) hs) (by decide))]
      rfl
    have e9 : (b2 (dIsN true) (some (rowD (some l))) (some PyData.none)).bind asB = some true := rfl
    dsimp only [joinO]
    rw [e9, ifO_tt]
    show appO _ (joiO (some (PyData.str " ")) ((C2 dCatL ((consO (some (PyData.str "parts")) (some [])).map PyData.list) ((lcO ((some (PyData.tuple (ofN l))).bind dItems) fun i8 => turnO (some true) (C1 dStr (some i8))).map PyData.list)).map PyData.list)) _ = _
    rw [e6]
    have e8 : (lineC plC [n] :: ts.map fun t => lineC tiC [t.1, t.2]).map xD ++ [xD (lineC paC l)] = (linesC n ts (some l)).map xD := by
      unfold linesC
      rw [show partC (some l) = [lineC paC l] from rfl, ← List.cons_append, List.map_append]
      rfl
    rw [← e8] at fin
    show (if _ < sizeLine then _ else none) = _
    rw [if_pos (by rw [List.length_map, List.length_cons, List.length_map, sizeX]; omega)]
    exact fin
theorem not_joinL {s c : Nat} (hs : s ≠ c) : ∀ ys : List (List Nat), (∀ y ∈ ys, s ∉ y) → s ∉ TL.joinL [c] ys
  | [], _ => by simp [TL.joinL]
  | [y], h => h y List.mem_cons_self
  | y :: z :: r, h => by
    show s ∉ y ++ ([c] ++ TL.joinL [c] (z :: r))
    intro hm
    rcases List.mem_append.mp hm with hm | hm
    · exact h y List.mem_cons_self hm
    · rcases List.mem_append.mp hm with hm | hm
      · exact hs (List.mem_singleton.mp hm)
      · exact not_joinL hs (z :: r) (fun w hw => h w (List.mem_cons_of_mem _ hw)) hm
theorem line_free {w ns : List Nat} (hw : 10 ∉ w) : 10 ∉ lineC w ns := not_joinL (by decide) _ fun y hy => by
  rcases List.mem_cons.mp hy with rfl | hy
  · exact hw
  · obtain ⟨x, _, rfl⟩ := List.mem_map.mp hy
    exact TL.numL_free (by decide)
theorem line_words {w ns : List Nat} (hw : 32 ∉ w) : TL.spl [32] 0 [] (lineC w ns) = w :: ns.map TL.numL := TL.spl_join (by simp) fun y hy => by
  rcases List.mem_cons.mp hy with rfl | hy
  · exact hw
  · obtain ⟨x, _, rfl⟩ := List.mem_map.mp hy
    exact TL.numL_free (by decide)
theorem numO_num : ∀ n : Nat, n < 100 → numO (TL.numL n) = some n := by decide +kernel
theorem rowL_nums : ∀ {ns : List Nat}, (∀ x ∈ ns, x < 100) → rowL (ns.map TL.numL) = some ns
  | [], _ => rfl
  | n :: ns, h => by
    rw [List.map_cons, rowL, numO_num n (h n List.mem_cons_self), Option.bind_some, rowL_nums fun x hx => h x (List.mem_cons_of_mem _ hx)]
    rfl
theorem row_line {w ns : List Nat} (hw : 32 ∉ w) (h : Small ns) : rowO w (lineC w ns) = some ns := by
  unfold rowO
  rw [line_words hw]
  show (if w = w then rowL (ns.map TL.numL) else none) = _
  rw [if_pos rfl, rowL_nums h.2]
theorem flat_join : ∀ L : List (List Nat), (L.map (· ++ [10])).flatten = TL.joinL [10] (L ++ [[]])
  | [] => rfl
  | x :: L => by
    rw [List.map_cons, List.flatten_cons, flat_join L, List.cons_append]
    cases h : L ++ [[]] with
    | nil => simp at h
    | cons y r =>
      show (x ++ [10]) ++ _ = x ++ ([10] ++ TL.joinL [10] (y :: r))
      rw [List.append_assoc]
theorem txt_lines (n : Nat) (ts : List (Nat × Nat)) (dl : Option (List Nat)) : TL.spl [10] 0 [] (txtC n ts dl) = linesC n ts dl ++ [[]] := by
  unfold txtC
  rw [flat_join]
  refine TL.spl_join (by simp) fun y hy => ?_
  rcases List.mem_append.mp hy with hy | hy
  · unfold linesC at hy
    rcases List.mem_cons.mp hy with rfl | hy
    · exact line_free (by decide)
    · rcases List.mem_append.mp hy with hy | hy
      · obtain ⟨p, _, rfl⟩ := List.mem_map.mp hy
        exact line_free (by decide)
      · cases dl with
        | none => cases hy
        | some l =>
          rw [List.mem_singleton.mp hy]
          exact line_free (by decide)
  · rw [List.mem_singleton.mp hy]
    exact List.not_mem_nil
theorem read_back (W : Wb n ts) {dl : Option (List Nat)} (h : OkD n dl) : thO (txtC n ts dl) = some (n, ts.map (fun t : Nat × Nat => some [t.1, t.2]), dl) := by
  have hn := W.hi
  unfold thO
  rw [txt_lines]
  show thN (linesC n ts dl ++ [[]]).getLast? ((ts.map (fun t : Nat × Nat => lineC tiC [t.1, t.2]) ++ partC dl) ++ [[]]).dropLast (rowO plC (lineC plC [n])) = _
  rw [List.getLast?_concat, List.dropLast_concat, row_line (by decide) (small_one (by omega))]
  have rows : (ts.map (fun t : Nat × Nat => lineC tiC [t.1, t.2])).map (rowO tiC) = ts.map (fun t : Nat × Nat => some [t.1, t.2]) := by
    rw [List.map_map]
    exact List.map_congr_left fun p hp => row_line (w := tiC) (by decide) (small_tie W hp)
  show (if some ([] : List Nat) = some [] then thR n (ts.map (fun t : Nat × Nat => lineC tiC [t.1, t.2]) ++ partC dl) (ts.map (fun t : Nat × Nat => lineC tiC [t.1, t.2]) ++ partC dl).getLast? else none) = _
  rw [if_pos rfl]
  cases dl with
  | none =>
    rw [show partC none = [] from rfl, List.append_nil]
    cases hg : (ts.map (fun t : Nat × Nat => lineC tiC [t.1, t.2])).getLast? with
    | none =>
      have e := List.map_eq_nil_iff.mp (List.getLast?_eq_none_iff.mp hg)
      subst e
      rfl
    | some e =>
      obtain ⟨p, _, rfl⟩ := List.mem_map.mp (List.mem_of_getLast? hg)
      show (if (TL.spl [32] 0 [] (lineC tiC [p.1, p.2])).head? = some paC then thP n (ts.map (fun t : Nat × Nat => lineC tiC [t.1, t.2])) (rowO paC (lineC tiC [p.1, p.2])) else some (n, (ts.map (fun t : Nat × Nat => lineC tiC [t.1, t.2])).map (rowO tiC), none)) = _
      rw [line_words (by decide), if_neg (by rw [List.head?_cons]; decide), rows]
  | some l =>
    have hs := h.small hn
    rw [show partC (some l) = [lineC paC l] from rfl, List.getLast?_concat]
    show (if (TL.spl [32] 0 [] (lineC paC l)).head? = some paC then thP n (ts.map (fun t : Nat × Nat => lineC tiC [t.1, t.2]) ++ [lineC paC l]) (rowO paC (lineC paC l)) else some (n, (ts.map (fun t : Nat × Nat => lineC tiC [t.1, t.2]) ++ [lineC paC l]).map (rowO tiC), none)) = _
    rw [line_words (by decide), if_pos (by rw [List.head?_cons]), row_line (by decide) hs]
    show (if l.length = n ∧ ∀ d ∈ l, d ≤ 11 then some (n, (ts.map (fun t : Nat × Nat => lineC tiC [t.1, t.2]) ++ [lineC paC l]).dropLast.map (rowO tiC), some l) else none) = _
    rw [if_pos (h l rfl), List.dropLast_concat, rows]
theorem told_web (n : Nat) (ts : List (Nat × Nat)) (dl : Option (List Nat)) : thD (some (n, ts.map (fun t : Nat × Nat => some [t.1, t.2]), dl)) = .tuple [webD n ts, rowD dl] := by
  show PyData.tuple [.tuple [.int n, .tuple ((ts.map (fun t : Nat × Nat => some [t.1, t.2])).map rowD)], rowD dl] = _
  rw [List.map_map]
  rfl
theorem readWeb_eval (W : Wb n ts) {dl : Option (List Nat)} (h : OkD n dl) : C1 m_read_web (some (xD (txtC n ts dl))) = some (.tuple [webD n ts, rowD dl]) := by
  rw [c1_some]
  unfold m_read_web
  have e1 : (((some (xD (txtC n ts dl))).map fun d => PyData.bool (isTy "str" d)).bind asT) = some true := rfl
  rw [e1, ifO_tt, thingsOf_eval (txt_len W h), read_back W h, told_web, Option.bind_some]
  have e2 : (b2 (dIsN false) (some (PyData.tuple [webD n ts, rowD dl])) (some PyData.none)).bind asB = some false := rfl
  have e3 : b2 dIx (some (PyData.tuple [webD n ts, rowD dl])) (some (PyData.int 0)) = some (webD n ts) := rfl
  rw [e2, e3, isWeb_eval (fine_web W), webB_true W]
  rfl
theorem isText_eval (W : Wb n ts) {dl : Option (List Nat)} (h : OkD n dl) : C1 m_is_text (some (xD (txtC n ts dl))) = some (.bool true) := by
  rw [c1_some]
  unfold m_is_text
  rw [readWeb_eval W h]
  rfl
def flatX : Nat → D → Bool
  | _, .int _ => true
  | _, .none => true
  | n + 1, .tuple ds => decide (ds.length < sizeLine) && ds.all (flatX n)
  | _, _ => false
theorem same_none (n : Nat) : m__law_same (n + 1) .none .none = some (.bool true) := by
  show b__law_same _ _ _ = _
  unfold b__law_same
  rfl
theorem same_flatX : ∀ (n : Nat) (d : D), flatX n d = true → m__law_same (n + 1) d d = some (.bool true)
  | n, .int i, _ => by rw [same_int]; simp
  | n, .none, _ => same_none n
  | n + 1, .tuple ds, h => by
    simp only [flatX, Bool.and_eq_true, decide_eq_true_eq, List.all_eq_true] at h
    exact same_seq (.inr rfl) h.1 fun x hx => same_flatX n x (h.2 x hx)
  | 0, .bool _, h => by cases h
  | 0, .str _, h => by cases h
  | 0, .list _, h => by cases h
  | 0, .tuple _, h => by cases h
  | 0, .dict _, h => by cases h
  | n + 1, .list _, h => by cases h
  | n + 1, .bool _, h => by cases h
  | n + 1, .str _, h => by cases h
  | n + 1, .dict _, h => by cases h
theorem flatX_ofN {n : Nat} {xs : List Nat} (h : xs.length < 100000) : flatX (n + 1) (.tuple (ofN xs)) = true := by
  show (decide ((ofN xs).length < sizeLine) && (ofN xs).all (flatX n)) = true
  rw [decide_eq_true (by rw [ofN_len, sizeX]; omega), Bool.true_and, List.all_eq_true]
  intro d hd
  obtain ⟨x, _, rfl⟩ := List.mem_map.mp hd
  cases n <;> rfl
theorem flatX_web (W : Wb n ts) {dl : Option (List Nat)} (h : OkD n dl) : flatX 39 (.tuple [webD n ts, rowD dl]) = true := by
  have hf := W.few
  have hn := W.hi
  have e1 : flatX 38 (webD n ts) = true := by
    show (decide (2 < sizeLine) && (flatX 37 (.int (n : Nat)) && (flatX 37 (.tuple (ts.map tieD)) && true))) = true
    have e : flatX 37 (.tuple (ts.map tieD)) = true := by
      show (decide ((ts.map tieD).length < sizeLine) && (ts.map tieD).all (flatX 36)) = true
      rw [decide_eq_true (by rw [List.length_map, sizeX]; omega), Bool.true_and, List.all_eq_true]
      intro d hd
      obtain ⟨p, _, rfl⟩ := List.mem_map.mp hd
      exact flatX_ofN (n := 35) (xs := [p.1, p.2]) (by simp)
    rw [e, decide_eq_true (by rw [sizeX]; omega)]
    rfl
  have e2 : flatX 38 (rowD dl) = true := by
    cases dl with
    | none => rfl
    | some l => exact flatX_ofN (n := 37) (by have := (h.small hn).1; omega)
  show (decide (2 < sizeLine) && (flatX 38 (webD n ts) && (flatX 38 (rowD dl) && true))) = true
  rw [e1, e2, decide_eq_true (by rw [sizeX]; omega)]
  rfl
theorem same_pair (W : Wb n ts) {dl : Option (List Nat)} (h : OkD n dl) : C2 r__law_same (some (.tuple [webD n ts, rowD dl])) (some (.tuple [webD n ts, rowD dl])) = some (.bool true) := by
  rw [c2_some]
  unfold r__law_same
  exact same_flatX 39 _ (flatX_web W h)
theorem same_text (a : List Nat) : C2 r__law_same (some (xD a)) (some (xD a)) = some (.bool true) := by
  rw [c2_some]
  unfold r__law_same
  show b__law_same _ _ _ = _
  unfold b__law_same
  have e2 : b2 dEq (some (xD a)) (some (xD a)) = some (.bool true) := by rw [eqX, decide_eq_true rfl]
  have e1 : b2 dNe ((some (xD a)).map fun d => PyData.bool (isTy "int" d)) ((some (xD a)).map fun d => PyData.bool (isTy "int" d)) = some (.bool false) := dNe_bool false false
  rw [e1, e2]
  rfl
theorem all2_nums : ∀ (xs ys : List D), All2 (fun _ d => ∃ v : Nat, d = PyData.int v ∧ v < 12) xs ys → ∃ l : List Nat, ys = ofN l ∧ l.length = xs.length ∧ ∀ d ∈ l, d ≤ 11
  | [], [], _ => ⟨[], rfl, rfl, fun _ h => nomatch h⟩
  | [], _ :: _, h => h.elim
  | _ :: _, [], h => h.elim
  | x :: xs, y :: ys, h => by
    obtain ⟨⟨v, rfl, hv⟩, h⟩ := h
    obtain ⟨l, rfl, h3, h4⟩ := all2_nums xs ys h
    exact ⟨v :: l, rfl, by rw [List.length_cons, List.length_cons, h3], fun d hd => by
      rcases List.mem_cons.mp hd with rfl | hd
      · omega
      · exact h4 d hd⟩
def bodyI (q : D → Nat → Prop) (turn5 : D) (kk2 : Unit → Nat → Prop) : Nat → Prop := ((ifM (lift ((b2 dLt (some turn5) (some (PyData.int 3))).bind asB)) (drawM (consM (lift (some (PyData.int 1))) (consM (lift (some (PyData.int 12))) nilM)) (G2 m__law_draw_web)) (appM (consM (op2 dAdd (lift (some (PyData.int 8))) (drawM (consM (lift (some (PyData.int 5))) nilM) (G1 m__law_take))) nilM) (F1 m__law_full))) fun web6 => ((ifM (bindM (op2 dGt (drawM (consM (lift (some (PyData.int 3))) nilM) (G1 m__law_take)) (lift (some (PyData.int 0)))) asB) (appM (consM (lstM (lcM (lift (C1 (fun x => dRange [x]) (b2 dIx (some web6) (some (PyData.int 0))))) fun place8 => turnM (lift (some true)) (drawM (consM (lift (some (PyData.int 12))) nilM) (G1 m__law_take)))) nilM) (F1 dTup)) (lift (some PyData.none))) fun dealing7 => ((lift (C2 m_write_web (some web6) (some dealing7))) fun text9 => (ifK (lift (orO (((C2 r__law_same (some text9) (C2 m__law_text (some web6) (some dealing7))).bind asT).map (!·)) ((b2 (dIsB true) (C1 m_is_text (some text9)) (some (PyData.bool true))).bind asB))) ((lift (some (PyData.bool false))) q) (ifK (lift (((C2 r__law_same (C1 m_read_web (some text9)) ((consO (some web6) (consO (some dealing7) (some []))).map PyData.tuple)).bind asT).map (!·))) ((lift (some (PyData.bool false))) q) (kk2 ()))))))
@[irreducible] def bodyK (q : D → Nat → Prop) (turn5 : D) (kk2 : Unit → Nat → Prop) : Nat → Prop := bodyI q turn5 kk2
theorem bodyK_eq : bodyI = bodyK := by
  funext q t kk
  unfold bodyK
  rfl
theorem turn_ok {q : D → Nat → Prop} {kk : Unit → Nat → Prop} {m t : Nat} (hm : m + 400 ≤ 1000000000) (hk : ∀ m', m' ≤ m + 400 → kk () m') : bodyI q (.int (t : Nat)) kk m := by
  unfold bodyI
  have s1 : Sp 200 (ifM (lift ((b2 dLt (some (PyData.int (t : Nat))) (some (PyData.int 3))).bind asB)) (drawM (consM (lift (some (PyData.int 1))) (consM (lift (some (PyData.int 12))) nilM)) (G2 m__law_draw_web)) (appM (consM (op2 dAdd (lift (some (PyData.int 8))) (drawM (consM (lift (some (PyData.int 5))) nilM) (G1 m__law_take))) nilM) (F1 m__law_full))) (fun d => ∃ n ts, d = webD n ts ∧ Wb n ts) := by
    refine (sp_ifM (k := 200) (k2 := 1) (congrArg (·.bind asB) (lt_nat t 3)) (fun _ => ?_) fun _ => ?_).mono (by omega) fun _ h => h
    · intro q m hm hq
      exact ⟨_, rfl, _, rfl, (sp_web (lo := 1) (hi := 12) (by decide) (by decide) (by decide)).use (by omega) fun d m' h1 h2 => hq d m' h1 (by
        obtain ⟨n, ts, e, W, _⟩ := h2
        exact ⟨n, ts, e, W⟩)⟩
    · refine (sp_app (sp_cons (sp_op2 (f := dAdd) (Φ := fun d => ∃ k : Nat, d = .int k ∧ 8 ≤ k ∧ k ≤ 12) (sp_lift (a := PyData.int 8) rfl) (sp_draw (k := 0) (n := 5) (sp_lift (a := PyData.int 5) rfl) (by decide) (by decide)) fun x y hx hy => ?_) sp_nil) (F := F1 m__law_full) (Φ := fun d => ∃ n ts, d = webD n ts ∧ Wb n ts) fun ds hds => ?_).mono (by omega) fun _ h => h
      · obtain ⟨v, rfl, hv⟩ := hy
        subst hx
        exact ⟨_, add_nat 8 v, _, rfl, by omega, by omega⟩
      · obtain ⟨d, r, rfl, ⟨k, rfl, k1, k2⟩, rfl⟩ := hds
        refine ⟨_, lawFull_eval k2, k, fullT k, rfl, ?_⟩
        by_cases h8 : k = 8
        · subst h8
          exact ⟨by decide, by decide, by decide, by decide, by decide⟩
        · exact full_web (by omega) k2
  refine s1.use (by omega) fun d m1 hm1 hd => ?_
  obtain ⟨n, ts, rfl, W⟩ := hd
  have hn := W.hi
  have s2 : Sp 20 (ifM (bindM (op2 dGt (drawM (consM (lift (some (PyData.int 3))) nilM) (G1 m__law_take)) (lift (some (PyData.int 0)))) asB) (appM (consM (lstM (lcM (lift (C1 (fun x => dRange [x]) (b2 dIx (some (webD n ts)) (some (PyData.int 0))))) fun place8 => turnM (lift (some true)) (drawM (consM (lift (some (PyData.int 12))) nilM) (G1 m__law_take)))) nilM) (F1 dTup)) (lift (some PyData.none))) (fun d => ∃ dl, d = rowD dl ∧ OkD n dl) := by
    intro q m hm hq
    refine (sp_bind (f := asB) (Φ := fun _ => True) (sp_op2 (f := dGt) (Φ := fun d => ∃ b : Bool, d = .bool b) (sp_draw (k := 0) (n := 3) (sp_lift (a := PyData.int 3) rfl) (by decide) (by decide)) (sp_lift (a := PyData.int 0) rfl) fun x y hx hy => ?_) fun d hd => ?_).use (by omega) fun b m2 hm2 _ => ?_
    · obtain ⟨v, rfl, _⟩ := hx
      subst hy
      exact ⟨_, gt_nat v 0, _, rfl⟩
    · obtain ⟨b, rfl⟩ := hd
      exact ⟨b, rfl, trivial⟩
    cases b with
    | false => exact ⟨_, rfl, hq _ _ (by omega) ⟨none, rfl, fun l h => nomatch h⟩⟩
    | true =>
      have e0 : C1 (fun x => dRange [x]) (b2 dIx (some (webD n ts)) (some (PyData.int 0))) = some (ofN (List.range n)) := by
        show C1 (fun x => dRange [x]) (some (PyData.int (n : Nat))) = _
        exact range_items (by omega)
      have s3 := sp_lc (k := 1) (k2 := 0) (Ti := lift (C1 (fun x => dRange [x]) (b2 dIx (some (webD n ts)) (some (PyData.int 0))))) (ds := ofN (List.range n)) (f := fun _ => drawM (consM (lift (some (PyData.int 12))) nilM) (G1 m__law_take)) (Φ := fun _ d => ∃ v : Nat, d = .int v ∧ v < 12) (sp_lift e0) (by rw [ofN_len, List.length_range, sizeX]; omega) fun d _ => sp_draw (k := 0) (n := 12) (sp_lift (a := PyData.int 12) rfl) (by decide) (by decide)
      rw [ofN_len, List.length_range] at s3
      refine (sp_app (sp_cons (sp_lst s3) sp_nil) (F := F1 dTup) (Φ := fun d => ∃ dl, d = rowD dl ∧ OkD n dl) fun ds hds => ?_).use (by omega) fun d m3 hm3 hd => hq d m3 (by omega) hd
      obtain ⟨d, r, rfl, ⟨es, rfl, hes⟩, rfl⟩ := hds
      obtain ⟨l, rfl, h3, h4⟩ := all2_nums _ _ hes
      rw [ofN_len, List.length_range] at h3
      exact ⟨_, rfl, some l, rfl, fun l' e => by cases e; exact ⟨h3, h4⟩⟩
  refine s2.use (by omega) fun d m2 hm2 hd => ?_
  obtain ⟨dl, rfl, hD⟩ := hd
  refine ⟨_, writeWeb_eval W hD, ?_⟩
  refine ifK_f ?_ (ifK_f ?_ (hk _ (by omega)))
  · rw [lawText_eval W hD, same_text, isText_eval W hD]
    rfl
  · have e : ((consO (some (webD n ts)) (consO (some (rowD dl)) (some []))).map PyData.tuple) = some (.tuple [webD n ts, rowD dl]) := rfl
    rw [readWeb_eval W hD, e, same_pair W hD]
    rfl
theorem turn_okK {q : D → Nat → Prop} {kk : Unit → Nat → Prop} {m t : Nat} (hm : m + 400 ≤ 1000000000) (hk : ∀ m', m' ≤ m + 400 → kk () m') : bodyK q (.int (t : Nat)) kk m := by
  rw [← bodyK_eq]
  exact turn_ok hm hk
theorem turns_ok {q : D → Nat → Prop} {k : Unit → Nat → Prop} : ∀ (xs : List Nat) (m : Nat), m + 400 * xs.length ≤ 1000000000 → (∀ m', k () m') → forK (S := Unit) (fun s1 turn5 kk2 => bodyK q turn5 kk2) (ofN xs) () k m
  | [], m, _, hk => hk m
  | d :: ds, m, hm, hk => turn_okK (by rw [List.length_cons] at hm; omega) fun m' hm' => turns_ok ds m' (by rw [List.length_cons] at hm; omega) hk
theorem law_holds : m_law qTrue 0 := by
  unfold m_law
  refine ⟨_, range_items (n := 4) (by decide), ?_⟩
  refine (?_ : forK (S := Unit) (fun s1 turn5 kk2 => bodyI qTrue turn5 kk2) _ () _ _)
  rw [bodyK_eq]
  refine turns_ok _ _ (by rw [List.length_range]; decide) fun m' => ?_
  exact ⟨_, rfl, rfl⟩
end
end Dl

set_option Elab.async false
set_option linter.all false
set_option maxRecDepth 100000
namespace Dl
open PySem L2
theorem all_mk {l : PySem.W.OpenLaw} {w : World} {K : PySem.W.Frag} {h : Heap} {mg : Str → Option Value} {fa f5 f6 f7 f8 f9 f10 f13 f14 f15 f16 f17 f18 f19 f21 f22 f23 f24 f25 f26 f27 f28 f29 f30 : Addr} (X : K.In h) (G : h.Ns mainGlobals mg) (hfa : mg "law" = some (.ref fa))
    {od5 an5 od6 an6 od7 an7 od8 an8 od9 an9 od10 an10 od13 an13 od14 an14 od15 an15 od16 an16 od17 an17 od18 an18 od19 an19 od21 an21 od22 an22 od23 an23 od24 an24 od25 an25 od26 an26 od27 an27 od28 an28 od29 an29 od30 an30 : Option Addr} {sl5 sl6 sl7 sl8 sl9 sl10 sl13 sl14 sl15 sl16 sl17 sl18 sl19 sl21 sl22 sl23 sl24 sl25 sl26 sl27 sl28 sl29 sl30 : Array (Option Value)} {oc5 kV5 dc5 pm5 cd5 ct5 oc6 kV6 dc6 pm6 cd6 ct6 oc7 kV7 dc7 pm7 cd7 ct7 oc8 kV8 dc8 pm8 cd8 ct8 oc9 kV9 dc9 pm9 cd9 ct9 oc10 kV10 dc10 pm10 cd10 ct10 oc13 kV13 dc13 pm13 cd13 ct13 oc14 kV14 dc14 pm14 cd14 ct14 oc15 kV15 dc15 pm15 cd15 ct15 oc16 kV16 dc16 pm16 cd16 ct16 oc17 kV17 dc17 pm17 cd17 ct17 oc18 kV18 dc18 pm18 cd18 ct18 oc19 kV19 dc19 pm19 cd19 ct19 oc21 kV21 dc21 pm21 cd21 ct21 oc22 kV22 dc22 pm22 cd22 ct22 oc23 kV23 dc23 pm23 cd23 ct23 oc24 kV24 dc24 pm24 cd24 ct24 oc25 kV25 dc25 pm25 cd25 ct25 oc26 kV26 dc26 pm26 cd26 ct26 oc27 kV27 dc27 pm27 cd27 ct27 oc28 kV28 dc28 pm28 cd28 ct28 oc29 kV29 dc29 pm29 cd29 ct29 oc30 kV30 dc30 pm30 cd30 ct30 : Value}
    (a5 : PySem.W.nsIn K mainGlobals "is_integer" = some (some (.ref f5))) (l5 : K.lookup f5 = some ⟨oc5, od5, .func (PySem.W.fnOf "is_integer" "is_integer" (defArgs s_is_integer) (defBody s_is_integer) (defScope s_is_integer) .none kV5 dc5 pm5 an5 cd5 ct5), sl5⟩) (c5 : PySem.W.codeIn K cd5 "is_integer" = true) (k5 : PySem.W.keepIn K (.ref f5) = true)
    (a6 : PySem.W.nsIn K mainGlobals "is_place" = some (some (.ref f6))) (l6 : K.lookup f6 = some ⟨oc6, od6, .func (PySem.W.fnOf "is_place" "is_place" (defArgs s_is_place) (defBody s_is_place) (defScope s_is_place) .none kV6 dc6 pm6 an6 cd6 ct6), sl6⟩) (c6 : PySem.W.codeIn K cd6 "is_place" = true) (k6 : PySem.W.keepIn K (.ref f6) = true)
    (a7 : PySem.W.nsIn K mainGlobals "is_rising" = some (some (.ref f7))) (l7 : K.lookup f7 = some ⟨oc7, od7, .func (PySem.W.fnOf "is_rising" "is_rising" (defArgs s_is_rising) (defBody s_is_rising) (defScope s_is_rising) .none kV7 dc7 pm7 an7 cd7 ct7), sl7⟩) (c7 : PySem.W.codeIn K cd7 "is_rising" = true) (k7 : PySem.W.keepIn K (.ref f7) = true)
    (a8 : PySem.W.nsIn K mainGlobals "is_lot" = some (some (.ref f8))) (l8 : K.lookup f8 = some ⟨oc8, od8, .func (PySem.W.fnOf "is_lot" "is_lot" (defArgs s_is_lot) (defBody s_is_lot) (defScope s_is_lot) .none kV8 dc8 pm8 an8 cd8 ct8), sl8⟩) (c8 : PySem.W.codeIn K cd8 "is_lot" = true) (k8 : PySem.W.keepIn K (.ref f8) = true)
    (a9 : PySem.W.nsIn K mainGlobals "is_tie" = some (some (.ref f9))) (l9 : K.lookup f9 = some ⟨oc9, od9, .func (PySem.W.fnOf "is_tie" "is_tie" (defArgs s_is_tie) (defBody s_is_tie) (defScope s_is_tie) .none kV9 dc9 pm9 an9 cd9 ct9), sl9⟩) (c9 : PySem.W.codeIn K cd9 "is_tie" = true) (k9 : PySem.W.keepIn K (.ref f9) = true)
    (a10 : PySem.W.nsIn K mainGlobals "is_web" = some (some (.ref f10))) (l10 : K.lookup f10 = some ⟨oc10, od10, .func (PySem.W.fnOf "is_web" "is_web" (defArgs s_is_web) (defBody s_is_web) (defScope s_is_web) .none kV10 dc10 pm10 an10 cd10 ct10), sl10⟩) (c10 : PySem.W.codeIn K cd10 "is_web" = true) (k10 : PySem.W.keepIn K (.ref f10) = true)
    (a13 : PySem.W.nsIn K mainGlobals "line_of" = some (some (.ref f13))) (l13 : K.lookup f13 = some ⟨oc13, od13, .func (PySem.W.fnOf "line_of" "line_of" (defArgs s_line_of) (defBody s_line_of) (defScope s_line_of) .none kV13 dc13 pm13 an13 cd13 ct13), sl13⟩) (c13 : PySem.W.codeIn K cd13 "line_of" = true) (k13 : PySem.W.keepIn K (.ref f13) = true)
    (a14 : PySem.W.nsIn K mainGlobals "write_web" = some (some (.ref f14))) (l14 : K.lookup f14 = some ⟨oc14, od14, .func (PySem.W.fnOf "write_web" "write_web" (defArgs s_write_web) (defBody s_write_web) (defScope s_write_web) .none kV14 dc14 pm14 an14 cd14 ct14), sl14⟩) (c14 : PySem.W.codeIn K cd14 "write_web" = true) (k14 : PySem.W.keepIn K (.ref f14) = true)
    (a15 : PySem.W.nsIn K mainGlobals "number_of" = some (some (.ref f15))) (l15 : K.lookup f15 = some ⟨oc15, od15, .func (PySem.W.fnOf "number_of" "number_of" (defArgs s_number_of) (defBody s_number_of) (defScope s_number_of) .none kV15 dc15 pm15 an15 cd15 ct15), sl15⟩) (c15 : PySem.W.codeIn K cd15 "number_of" = true) (k15 : PySem.W.keepIn K (.ref f15) = true)
    (a16 : PySem.W.nsIn K mainGlobals "numbers_of" = some (some (.ref f16))) (l16 : K.lookup f16 = some ⟨oc16, od16, .func (PySem.W.fnOf "numbers_of" "numbers_of" (defArgs s_numbers_of) (defBody s_numbers_of) (defScope s_numbers_of) .none kV16 dc16 pm16 an16 cd16 ct16), sl16⟩) (c16 : PySem.W.codeIn K cd16 "numbers_of" = true) (k16 : PySem.W.keepIn K (.ref f16) = true)
    (a17 : PySem.W.nsIn K mainGlobals "things_of" = some (some (.ref f17))) (l17 : K.lookup f17 = some ⟨oc17, od17, .func (PySem.W.fnOf "things_of" "things_of" (defArgs s_things_of) (defBody s_things_of) (defScope s_things_of) .none kV17 dc17 pm17 an17 cd17 ct17), sl17⟩) (c17 : PySem.W.codeIn K cd17 "things_of" = true) (k17 : PySem.W.keepIn K (.ref f17) = true)
    (a18 : PySem.W.nsIn K mainGlobals "read_web" = some (some (.ref f18))) (l18 : K.lookup f18 = some ⟨oc18, od18, .func (PySem.W.fnOf "read_web" "read_web" (defArgs s_read_web) (defBody s_read_web) (defScope s_read_web) .none kV18 dc18 pm18 an18 cd18 ct18), sl18⟩) (c18 : PySem.W.codeIn K cd18 "read_web" = true) (k18 : PySem.W.keepIn K (.ref f18) = true)
    (a19 : PySem.W.nsIn K mainGlobals "is_text" = some (some (.ref f19))) (l19 : K.lookup f19 = some ⟨oc19, od19, .func (PySem.W.fnOf "is_text" "is_text" (defArgs s_is_text) (defBody s_is_text) (defScope s_is_text) .none kV19 dc19 pm19 an19 cd19 ct19), sl19⟩) (c19 : PySem.W.codeIn K cd19 "is_text" = true) (k19 : PySem.W.keepIn K (.ref f19) = true)
    (a21 : PySem.W.nsIn K mainGlobals "_law_open" = some (some (.ref f21))) (l21 : K.lookup f21 = some ⟨oc21, od21, .func (PySem.W.fnOf "_law_open" "_law_open" (defArgs s__law_open) (defBody s__law_open) (defScope s__law_open) .none kV21 dc21 pm21 an21 cd21 ct21), sl21⟩) (c21 : PySem.W.codeIn K cd21 "_law_open" = true) (k21 : PySem.W.keepIn K (.ref f21) = true)
    (a22 : PySem.W.nsIn K mainGlobals "_law_spread" = some (some (.ref f22))) (l22 : K.lookup f22 = some ⟨oc22, od22, .func (PySem.W.fnOf "_law_spread" "_law_spread" (defArgs s__law_spread) (defBody s__law_spread) (defScope s__law_spread) .none kV22 dc22 pm22 an22 cd22 ct22), sl22⟩) (c22 : PySem.W.codeIn K cd22 "_law_spread" = true) (k22 : PySem.W.keepIn K (.ref f22) = true)
    (a23 : PySem.W.nsIn K mainGlobals "_law_take" = some (some (.ref f23))) (l23 : K.lookup f23 = some ⟨oc23, od23, .func (PySem.W.fnOf "_law_take" "_law_take" (defArgs s__law_take) (defBody s__law_take) (defScope s__law_take) .none kV23 dc23 pm23 an23 cd23 ct23), sl23⟩) (c23 : PySem.W.codeIn K cd23 "_law_take" = true) (k23 : PySem.W.keepIn K (.ref f23) = true)
    (a24 : PySem.W.nsIn K mainGlobals "_law_same" = some (some (.ref f24))) (l24 : K.lookup f24 = some ⟨oc24, od24, .func (PySem.W.fnOf "_law_same" "_law_same" (defArgs s__law_same) (defBody s__law_same) (defScope s__law_same) .none kV24 dc24 pm24 an24 cd24 ct24), sl24⟩) (c24 : PySem.W.codeIn K cd24 "_law_same" = true) (k24 : PySem.W.keepIn K (.ref f24) = true)
    (a25 : PySem.W.nsIn K mainGlobals "_law_draw_order" = some (some (.ref f25))) (l25 : K.lookup f25 = some ⟨oc25, od25, .func (PySem.W.fnOf "_law_draw_order" "_law_draw_order" (defArgs s__law_draw_order) (defBody s__law_draw_order) (defScope s__law_draw_order) .none kV25 dc25 pm25 an25 cd25 ct25), sl25⟩) (c25 : PySem.W.codeIn K cd25 "_law_draw_order" = true) (k25 : PySem.W.keepIn K (.ref f25) = true)
    (a26 : PySem.W.nsIn K mainGlobals "_law_web" = some (some (.ref f26))) (l26 : K.lookup f26 = some ⟨oc26, od26, .func (PySem.W.fnOf "_law_web" "_law_web" (defArgs s__law_web) (defBody s__law_web) (defScope s__law_web) .none kV26 dc26 pm26 an26 cd26 ct26), sl26⟩) (c26 : PySem.W.codeIn K cd26 "_law_web" = true) (k26 : PySem.W.keepIn K (.ref f26) = true)
    (a27 : PySem.W.nsIn K mainGlobals "_law_draw_web" = some (some (.ref f27))) (l27 : K.lookup f27 = some ⟨oc27, od27, .func (PySem.W.fnOf "_law_draw_web" "_law_draw_web" (defArgs s__law_draw_web) (defBody s__law_draw_web) (defScope s__law_draw_web) .none kV27 dc27 pm27 an27 cd27 ct27), sl27⟩) (c27 : PySem.W.codeIn K cd27 "_law_draw_web" = true) (k27 : PySem.W.keepIn K (.ref f27) = true)
    (a28 : PySem.W.nsIn K mainGlobals "_law_text" = some (some (.ref f28))) (l28 : K.lookup f28 = some ⟨oc28, od28, .func (PySem.W.fnOf "_law_text" "_law_text" (defArgs s__law_text) (defBody s__law_text) (defScope s__law_text) .none kV28 dc28 pm28 an28 cd28 ct28), sl28⟩) (c28 : PySem.W.codeIn K cd28 "_law_text" = true) (k28 : PySem.W.keepIn K (.ref f28) = true)
    (a29 : PySem.W.nsIn K mainGlobals "_law_full" = some (some (.ref f29))) (l29 : K.lookup f29 = some ⟨oc29, od29, .func (PySem.W.fnOf "_law_full" "_law_full" (defArgs s__law_full) (defBody s__law_full) (defScope s__law_full) .none kV29 dc29 pm29 an29 cd29 ct29), sl29⟩) (c29 : PySem.W.codeIn K cd29 "_law_full" = true) (k29 : PySem.W.keepIn K (.ref f29) = true)
    (a30 : PySem.W.nsIn K mainGlobals "law" = some (some (.ref f30))) (l30 : K.lookup f30 = some ⟨oc30, od30, .func (PySem.W.fnOf "law" "law" (defArgs s_law) (defBody s_law) (defScope s_law) .none kV30 dc30 pm30 an30 cd30 ct30), sl30⟩) (c30 : PySem.W.codeIn K cd30 "law" = true) (k30 : PySem.W.keepIn K (.ref f30) = true)
    (z0 : PySem.W.nsIn K mainGlobals "ValueError" = some none)
    (z1 : PySem.W.nsIn K mainGlobals "all" = some none)
    (z2 : PySem.W.nsIn K mainGlobals "any" = some none)
    (z3 : PySem.W.nsIn K mainGlobals "bool" = some none)
    (z4 : PySem.W.nsIn K mainGlobals "enumerate" = some none)
    (z5 : PySem.W.nsIn K mainGlobals "int" = some none)
    (z6 : PySem.W.nsIn K mainGlobals "isinstance" = some none)
    (z7 : PySem.W.nsIn K mainGlobals "len" = some none)
    (z8 : PySem.W.nsIn K mainGlobals "list" = some none)
    (z9 : PySem.W.nsIn K mainGlobals "max" = some none)
    (z10 : PySem.W.nsIn K mainGlobals "min" = some none)
    (z11 : PySem.W.nsIn K mainGlobals "range" = some none)
    (z12 : PySem.W.nsIn K mainGlobals "set" = some none)
    (z13 : PySem.W.nsIn K mainGlobals "sorted" = some none)
    (z14 : PySem.W.nsIn K mainGlobals "str" = some none)
    (z15 : PySem.W.nsIn K mainGlobals "super" = some none)
    (z16 : PySem.W.nsIn K mainGlobals "tuple" = some none)
    (z17 : PySem.W.nsIn K mainGlobals "zip" = some none)
    {tMOST_PLACES : Tok} (bMOST_PLACES : PySem.W.nsIn K mainGlobals "MOST_PLACES" = some (some (.int 12 tMOST_PLACES)))
    {tMOST_NUMBER : Tok} (bMOST_NUMBER : PySem.W.nsIn K mainGlobals "MOST_NUMBER" = some (some (.int 11 tMOST_NUMBER)))
    : ∃ fd : FuncData, (∀ (s : Shared) (v : Value), BindsTo s fd ⟨[v], []⟩ [("script", v)]) ∧ ∀ base : Heap, K.In base → base.Ns mainGlobals mg → FnG l.prog w K mg base CX0 200 fa fd ["script"] (spLaw K) := by
  have e := hfa.symm.trans (PySem.W.mg_of X G a30)
  cases e
  refine ⟨PySem.W.fnOf "law" "law" (defArgs s_law) (defBody s_law) (defScope s_law) .none kV30 dc30 pm30 an30 cd30 ct30, fun s v => .of_eq rfl, fun base _ _ => ?_⟩
  exact ok_law (T := { 
    f_is_integer := _, fd_is_integer := _, F_is_integer := fun_mk (st := s_is_integer) l5 c5 k5, m_is_integer := PySem.W.mg_of X G a5,
    f_is_place := _, fd_is_place := _, F_is_place := fun_mk (st := s_is_place) l6 c6 k6, m_is_place := PySem.W.mg_of X G a6,
    f_is_rising := _, fd_is_rising := _, F_is_rising := fun_mk (st := s_is_rising) l7 c7 k7, m_is_rising := PySem.W.mg_of X G a7,
    f_is_lot := _, fd_is_lot := _, F_is_lot := fun_mk (st := s_is_lot) l8 c8 k8, m_is_lot := PySem.W.mg_of X G a8,
    f_is_tie := _, fd_is_tie := _, F_is_tie := fun_mk (st := s_is_tie) l9 c9 k9, m_is_tie := PySem.W.mg_of X G a9,
    f_is_web := _, fd_is_web := _, F_is_web := fun_mk (st := s_is_web) l10 c10 k10, m_is_web := PySem.W.mg_of X G a10,
    f_line_of := _, fd_line_of := _, F_line_of := fun_mk (st := s_line_of) l13 c13 k13, m_line_of := PySem.W.mg_of X G a13,
    f_write_web := _, fd_write_web := _, F_write_web := fun_mk (st := s_write_web) l14 c14 k14, m_write_web := PySem.W.mg_of X G a14,
    f_number_of := _, fd_number_of := _, F_number_of := fun_mk (st := s_number_of) l15 c15 k15, m_number_of := PySem.W.mg_of X G a15,
    f_numbers_of := _, fd_numbers_of := _, F_numbers_of := fun_mk (st := s_numbers_of) l16 c16 k16, m_numbers_of := PySem.W.mg_of X G a16,
    f_things_of := _, fd_things_of := _, F_things_of := fun_mk (st := s_things_of) l17 c17 k17, m_things_of := PySem.W.mg_of X G a17,
    f_read_web := _, fd_read_web := _, F_read_web := fun_mk (st := s_read_web) l18 c18 k18, m_read_web := PySem.W.mg_of X G a18,
    f_is_text := _, fd_is_text := _, F_is_text := fun_mk (st := s_is_text) l19 c19 k19, m_is_text := PySem.W.mg_of X G a19,
    f__law_open := _, fd__law_open := _, F__law_open := fun_mk (st := s__law_open) l21 c21 k21, m__law_open := PySem.W.mg_of X G a21,
    f__law_spread := _, fd__law_spread := _, F__law_spread := fun_mk (st := s__law_spread) l22 c22 k22, m__law_spread := PySem.W.mg_of X G a22,
    f__law_take := _, fd__law_take := _, F__law_take := fun_mk (st := s__law_take) l23 c23 k23, m__law_take := PySem.W.mg_of X G a23,
    f__law_same := _, fd__law_same := _, F__law_same := fun_mk (st := s__law_same) l24 c24 k24, m__law_same := PySem.W.mg_of X G a24,
    f__law_draw_order := _, fd__law_draw_order := _, F__law_draw_order := fun_mk (st := s__law_draw_order) l25 c25 k25, m__law_draw_order := PySem.W.mg_of X G a25,
    f__law_web := _, fd__law_web := _, F__law_web := fun_mk (st := s__law_web) l26 c26 k26, m__law_web := PySem.W.mg_of X G a26,
    f__law_draw_web := _, fd__law_draw_web := _, F__law_draw_web := fun_mk (st := s__law_draw_web) l27 c27 k27, m__law_draw_web := PySem.W.mg_of X G a27,
    f__law_text := _, fd__law_text := _, F__law_text := fun_mk (st := s__law_text) l28 c28 k28, m__law_text := PySem.W.mg_of X G a28,
    f__law_full := _, fd__law_full := _, F__law_full := fun_mk (st := s__law_full) l29 c29 k29, m__law_full := PySem.W.mg_of X G a29,
    f_law := _, fd_law := _, F_law := fun_mk (st := s_law) l30 c30 k30, m_law := PySem.W.mg_of X G a30,
    z_ValueError := PySem.W.mg_none_of X G z0,
    z_all := PySem.W.mg_none_of X G z1,
    z_any := PySem.W.mg_none_of X G z2,
    z_bool := PySem.W.mg_none_of X G z3,
    z_enumerate := PySem.W.mg_none_of X G z4,
    z_int := PySem.W.mg_none_of X G z5,
    z_isinstance := PySem.W.mg_none_of X G z6,
    z_len := PySem.W.mg_none_of X G z7,
    z_list := PySem.W.mg_none_of X G z8,
    z_max := PySem.W.mg_none_of X G z9,
    z_min := PySem.W.mg_none_of X G z10,
    z_range := PySem.W.mg_none_of X G z11,
    z_set := PySem.W.mg_none_of X G z12,
    z_sorted := PySem.W.mg_none_of X G z13,
    z_str := PySem.W.mg_none_of X G z14,
    z_super := PySem.W.mg_none_of X G z15,
    z_tuple := PySem.W.mg_none_of X G z16,
    z_zip := PySem.W.mg_none_of X G z17,
    t_MOST_PLACES := _, g_MOST_PLACES := PySem.W.mg_of X G bMOST_PLACES,
    t_MOST_NUMBER := _, g_MOST_NUMBER := PySem.W.mg_of X G bMOST_NUMBER }) law_holds
end Dl
open PySem PySem.W PyProof.Rows
set_option maxRecDepth 100000 in
set_option maxHeartbeats 0 in
theorem PySem.Challenge.cw_rootparts_k45_texts_both_ways_holds : PySem.Challenge.rw_rootparts_k45_texts_both_ways.Holds := by
  w_on; o_law; k_head; (case hw => w_witness2)
  k_fill
  refine Dl.walkG (l := PySem.Challenge.rw_rootparts_k45_texts_both_ways) (k := 200) rfl rfl ⟨rfl, by decide, by decide⟩ (fun w h Y => PySem.W.kIn_of Y) ?F
  case F =>
    intro w mg fa h KX G hmg
    refine' Dl.all_mk KX G hmg ?a5 ?l5 ?c5 ?k5 ?a6 ?l6 ?c6 ?k6 ?a7 ?l7 ?c7 ?k7 ?a8 ?l8 ?c8 ?k8 ?a9 ?l9 ?c9 ?k9 ?a10 ?l10 ?c10 ?k10 ?a13 ?l13 ?c13 ?k13 ?a14 ?l14 ?c14 ?k14 ?a15 ?l15 ?c15 ?k15 ?a16 ?l16 ?c16 ?k16 ?a17 ?l17 ?c17 ?k17 ?a18 ?l18 ?c18 ?k18 ?a19 ?l19 ?c19 ?k19 ?a21 ?l21 ?c21 ?k21 ?a22 ?l22 ?c22 ?k22 ?a23 ?l23 ?c23 ?k23 ?a24 ?l24 ?c24 ?k24 ?a25 ?l25 ?c25 ?k25 ?a26 ?l26 ?c26 ?k26 ?a27 ?l27 ?c27 ?k27 ?a28 ?l28 ?c28 ?k28 ?a29 ?l29 ?c29 ?k29 ?a30 ?l30 ?c30 ?k30 ?z0 ?z1 ?z2 ?z3 ?z4 ?z5 ?z6 ?z7 ?z8 ?z9 ?z10 ?z11 ?z12 ?z13 ?z14 ?z15 ?z16 ?z17 ?bMOST_PLACES ?bMOST_NUMBER
    (case a5 => k_is); (case l5 => k_is); (case c5 => k_is); (case k5 => k_is)
    (case a6 => k_is); (case l6 => k_is); (case c6 => k_is); (case k6 => k_is)
    (case a7 => k_is); (case l7 => k_is); (case c7 => k_is); (case k7 => k_is)
    (case a8 => k_is); (case l8 => k_is); (case c8 => k_is); (case k8 => k_is)
    (case a9 => k_is); (case l9 => k_is); (case c9 => k_is); (case k9 => k_is)
    (case a10 => k_is); (case l10 => k_is); (case c10 => k_is); (case k10 => k_is)
    (case a13 => k_is); (case l13 => k_is); (case c13 => k_is); (case k13 => k_is)
    (case a14 => k_is); (case l14 => k_is); (case c14 => k_is); (case k14 => k_is)
    (case a15 => k_is); (case l15 => k_is); (case c15 => k_is); (case k15 => k_is)
    (case a16 => k_is); (case l16 => k_is); (case c16 => k_is); (case k16 => k_is)
    (case a17 => k_is); (case l17 => k_is); (case c17 => k_is); (case k17 => k_is)
    (case a18 => k_is); (case l18 => k_is); (case c18 => k_is); (case k18 => k_is)
    (case a19 => k_is); (case l19 => k_is); (case c19 => k_is); (case k19 => k_is)
    (case a21 => k_is); (case l21 => k_is); (case c21 => k_is); (case k21 => k_is)
    (case a22 => k_is); (case l22 => k_is); (case c22 => k_is); (case k22 => k_is)
    (case a23 => k_is); (case l23 => k_is); (case c23 => k_is); (case k23 => k_is)
    (case a24 => k_is); (case l24 => k_is); (case c24 => k_is); (case k24 => k_is)
    (case a25 => k_is); (case l25 => k_is); (case c25 => k_is); (case k25 => k_is)
    (case a26 => k_is); (case l26 => k_is); (case c26 => k_is); (case k26 => k_is)
    (case a27 => k_is); (case l27 => k_is); (case c27 => k_is); (case k27 => k_is)
    (case a28 => k_is); (case l28 => k_is); (case c28 => k_is); (case k28 => k_is)
    (case a29 => k_is); (case l29 => k_is); (case c29 => k_is); (case k29 => k_is)
    (case a30 => k_is); (case l30 => k_is); (case c30 => k_is); (case k30 => k_is)
    (case z0 => k_is)
    (case z1 => k_is)
    (case z2 => k_is)
    (case z3 => k_is)
    (case z4 => k_is)
    (case z5 => k_is)
    (case z6 => k_is)
    (case z7 => k_is)
    (case z8 => k_is)
    (case z9 => k_is)
    (case z10 => k_is)
    (case z11 => k_is)
    (case z12 => k_is)
    (case z13 => k_is)
    (case z14 => k_is)
    (case z15 => k_is)
    (case z16 => k_is)
    (case z17 => k_is)
    (case bMOST_PLACES => k_is)
    (case bMOST_NUMBER => k_is)


