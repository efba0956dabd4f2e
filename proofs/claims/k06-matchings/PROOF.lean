import PyProof.Rows.All
import Wide.All
import OpenK.AllK
import Wide.FinOn
import HandS.ForMost
import HandS.ForExc
import HandS.CallSlots
import HandS.Flow
import HandS.Zip
import HandS.Deep
import HandS.Small
import HandS.Style
import HandS.Gcd
import HandS.IsInst
import HandS.ExcIs
import HandS.Wide
import KE.KDictKeyed
import HandS.TupAny
import HandS.TupMul
import HandS.SortOrd
import KE.GoesEnum
import KE.SortData
import HandS.Conv
import HandS.SetFor
import HandS.TryMany
import KE.KDictWalk
import PyProof.DictStraight
import PyProof.DictRoads
import PyProof.DictRoadsH
import PyProof.Rows.TupTab
import KE.KDictPairs
import KE.KDictDisplayH
import PyProof.DictDisplay
import PyProof.DictTable
import PyProof.ConsumeWalk
import KE.GoesZip
import HandS.NoneIn
import HandS.TupSets
import HandS.Strs
import KE.KDictCopyH
import KE.KMathGC
import PySem.Challenge.RW_strengthsuntold_k06_matchings_and_covers
set_option Elab.async false
set_option linter.all false
set_option maxRecDepth 100000
/-! An evaluator for a plain part of Python, over the hand layer: values, abstract heaps, what a run says. -/
namespace Ev
open PySem PySem.Spec L2
open PyProof.Rows hiding St

/-- built-in types -/
inductive Tn where
  | int | bool | str | tuple | list | dict | none
def Tn.name : Tn → String
  | .int => "int" | .bool => "bool" | .str => "str" | .tuple => "tuple" | .list => "list" | .dict => "dict" | .none => "NoneType"
/-- a value: tuples as trees, lists and dicts by their number in the abstract heap; opq: any value, never looked at -/
inductive A where
  | non | bl (b : Bool) | int (i : Int) | str (x : Str) | tup (xs : List A) | ref (n : Nat) | ty (n : Tn) | fn (i : Nat) | opq | exc (j : Nat)

/-- an object -/
inductive O where
  | lst (xs : List A)
  | dct (fz : Bool) (kvs : List (NestedKey × A))

/-- the abstract heap: the newest object first -/
structure Ah where
  n : Nat
  os : List O

def getO : List O → Nat → Nat → Option O
  | [], _, _ => none
  | o :: r, m, k => match Nat.beq (k + 1) m with
    | true => some o
    | false => getO r (m - 1) k
def setO (x : O) : List O → Nat → Nat → List O
  | [], _, _ => []
  | o :: r, m, k => match Nat.beq (k + 1) m with
    | true => x :: r
    | false => o :: setO x r (m - 1) k
def Ah.get (h : Ah) (k : Nat) : Option O := getO h.os h.n k
def Ah.set (h : Ah) (k : Nat) (x : O) : Ah := ⟨h.n, setO x h.os h.n k⟩
def Ah.push (h : Ah) (x : O) : Ah := ⟨h.n + 1, x :: h.os⟩
def Ah.nil : Ah := ⟨0, []⟩

theorem getO_lt : ∀ {os : List O} {k : Nat} {o : O}, getO os os.length k = some o → k < os.length
  | [], k, o, h => by simp [getO] at h
  | x :: r, k, o, h => by
    unfold getO at h
    split at h
    · rename_i e
      have e := Nat.eq_of_beq_eq_true e
      simp only [List.length_cons] at e ⊢
      omega
    · have := getO_lt (os := r) (k := k) (o := o) (by simpa using h)
      simp only [List.length_cons]
      omega
theorem getO_some : ∀ {os : List O} {k : Nat}, k < os.length → ∃ o, getO os os.length k = some o
  | [], k, h => by simp at h
  | x :: r, k, h => by
    unfold getO
    split
    · exact ⟨x, rfl⟩
    · rename_i e
      have e := Nat.ne_of_beq_eq_false e
      simp only [List.length_cons] at e h
      have := getO_some (os := r) (k := k) (by omega)
      simpa using this
theorem getO_cons {x : O} {r : List O} {k : Nat} (h : k < r.length) : getO (x :: r) (r.length + 1) k = getO r r.length k := by
  show (match Nat.beq (k + 1) (r.length + 1) with | true => some x | false => getO r (r.length + 1 - 1) k) = _
  have e : Nat.beq (k + 1) (r.length + 1) = false := by
    cases q : Nat.beq (k + 1) (r.length + 1) with
    | false => rfl
    | true => have := Nat.eq_of_beq_eq_true q; omega
  rw [e]
  rfl
theorem getO_top {x : O} {r : List O} : getO (x :: r) (r.length + 1) r.length = some x := by
  show (match Nat.beq (r.length + 1) (r.length + 1) with | true => some x | false => getO r (r.length + 1 - 1) r.length) = _
  rw [Nat.beq_refl]
theorem setO_length (x : O) : ∀ (os : List O) (m k : Nat), (setO x os m k).length = os.length
  | [], _, _ => rfl
  | o :: r, m, k => by
    unfold setO
    split
    · rfl
    · simp only [List.length_cons, setO_length x r]
theorem getO_setO (x : O) : ∀ {os : List O} {k j : Nat}, k < os.length → getO (setO x os os.length k) os.length j = if j = k then some x else getO os os.length j
  | [], k, j, h => by simp at h
  | o :: r, k, j, h => by
    simp only [List.length_cons] at h ⊢
    unfold setO
    split
    · rename_i e
      have e := Nat.eq_of_beq_eq_true e
      have ek : k = r.length := by omega
      subst ek
      by_cases hj : j = r.length
      · subst hj
        rw [if_pos rfl, getO_top]
      · rw [if_neg hj]
        unfold getO
        have q : Nat.beq (j + 1) (r.length + 1) = false := by
          cases q : Nat.beq (j + 1) (r.length + 1) with
          | false => rfl
          | true => have := Nat.eq_of_beq_eq_true q; omega
        rw [q]
    · rename_i e
      have e := Nat.ne_of_beq_eq_false e
      have ih := getO_setO x (os := r) (k := k) (j := j) (by omega)
      unfold getO
      split
      · rename_i q
        have q := Nat.eq_of_beq_eq_true q
        rw [if_neg (by omega)]
      · simpa using ih

/-- what is fixed for a law: the functions' and the classes' addresses -/
structure Gl where
  fa : Nat → Addr
  ca : Nat → Addr
  fd : Nat → FuncData
  ea : Addr
  ej : Nat
  w : World

mutual
/-- the value v lies in H as a; ρ: where the abstract objects below n lie -/
def RV (g : Gl) (ρ : Nat → Addr) (n : Nat) (H : Hp) : A → V → Prop
  | .non, v => v = .non
  | .bl b, v => v = .bl b
  | .int i, v => v = .int i
  | .str x, v => v = .str x
  | .ty t, v => v = .ty t.name
  | .fn i, v => v = .ref (g.fa i)
  | .opq, _ => True
  | .exc j, v => v = .ref g.ea ∧ g.ej = j
  | .ref k, v => k < n ∧ v = .ref (ρ k)
  | .tup xs, v => ∃ p ys, v = .ref p ∧ H p = some (.tup ys) ∧ RVs g ρ n H xs ys
def RVs (g : Gl) (ρ : Nat → Addr) (n : Nat) (H : Hp) : List A → List V → Prop
  | [], ys => ys = []
  | x :: xs, ys => ∃ y r, ys = y :: r ∧ RV g ρ n H x y ∧ RVs g ρ n H xs r
end

structure Ext (ρ : Nat → Addr) (n : Nat) (H : Hp) (ρ' : Nat → Addr) (n' : Nat) (H' : Hp) : Prop where
  le : n ≤ n'
  ag : ∀ k, k < n → ρ' k = ρ k
  nw : ∀ k, n ≤ k → k < n' → H (ρ' k) = none
  tp : ∀ a xs, H a = some (.tup xs) → H' a = some (.tup xs)
  fr : ∀ a o, H a = some o → (∀ k, k < n → ρ k ≠ a) → H' a = some o
  gn : ∀ a, H' a = none → H a = none
  fz : ∀ a o u, H a = some (.frz o u) → H' a = some (.frz o u)
theorem Ext.refl {ρ : Nat → Addr} {n : Nat} {H : Hp} : Ext ρ n H ρ n H := ⟨Nat.le_refl _, fun _ _ => rfl, fun _ h1 h2 => by omega, fun _ _ h => h, fun _ _ h _ => h, fun _ h => h, fun _ _ _ h => h⟩
theorem Ext.trans {ρ ρ1 ρ2 : Nat → Addr} {n n1 n2 : Nat} {H H1 H2 : Hp} (a : Ext ρ n H ρ1 n1 H1) (b : Ext ρ1 n1 H1 ρ2 n2 H2) : Ext ρ n H ρ2 n2 H2 where
  le := Nat.le_trans a.le b.le
  ag := fun k h => (b.ag k (Nat.lt_of_lt_of_le h a.le)).trans (a.ag k h)
  nw := fun k h1 h2 => by
    by_cases h3 : k < n1
    · rw [b.ag k h3]; exact a.nw k h1 h3
    · exact a.gn _ (b.nw k (by omega) h2)
  tp := fun x xs h => b.tp x xs (a.tp x xs h)
  fr := fun x o h q => b.fr x o (a.fr x o h q) fun k hk e => by
    by_cases h3 : k < n
    · exact q k h3 (by rw [← a.ag k h3]; exact e)
    · have := a.nw k (by omega) hk
      rw [e, h] at this
      cases this
  gn := fun x h => a.gn x (b.gn x h)
  fz := fun x o u h => b.fz x o u (a.fz x o u h)

mutual
theorem RV.mono {g : Gl} {ρ ρ' : Nat → Addr} {n n' : Nat} {H H' : Hp} (e : Ext ρ n H ρ' n' H') : ∀ {a : A} {v : V}, RV g ρ n H a v → RV g ρ' n' H' a v
  | .non, _, h => by unfold RV at h ⊢; exact h
  | .bl _, _, h => by unfold RV at h ⊢; exact h
  | .int _, _, h => by unfold RV at h ⊢; exact h
  | .str _, _, h => by unfold RV at h ⊢; exact h
  | .ty _, _, h => by unfold RV at h ⊢; exact h
  | .fn _, _, h => by unfold RV at h ⊢; exact h
  | .opq, _, h => by unfold RV at h ⊢; exact h
  | .exc _, _, h => by unfold RV at h ⊢; exact h
  | .ref k, _, h => by
    unfold RV at h ⊢
    exact ⟨Nat.lt_of_lt_of_le h.1 e.le, by rw [e.ag k h.1]; exact h.2⟩
  | .tup xs, _, h => by
    unfold RV at h ⊢
    obtain ⟨p, ys, h1, h2, h3⟩ := h
    exact ⟨p, ys, h1, e.tp p ys h2, RVs.mono e h3⟩
theorem RVs.mono {g : Gl} {ρ ρ' : Nat → Addr} {n n' : Nat} {H H' : Hp} (e : Ext ρ n H ρ' n' H') : ∀ {xs : List A} {ys : List V}, RVs g ρ n H xs ys → RVs g ρ' n' H' xs ys
  | [], _, h => by unfold RVs at h ⊢; exact h
  | x :: xs, _, h => by
    unfold RVs at h ⊢
    obtain ⟨y, r, h1, h2, h3⟩ := h
    exact ⟨y, r, h1, RV.mono e h2, RVs.mono e h3⟩
end

section
variable {g : Gl} {ρ : Nat → Addr} {n : Nat} {H : Hp}
theorem RVs.length : ∀ {xs : List A} {ys : List V}, RVs g ρ n H xs ys → xs.length = ys.length
  | [], _, h => by unfold RVs at h; subst h; rfl
  | x :: xs, _, h => by
    unfold RVs at h
    obtain ⟨y, r, rfl, _, h3⟩ := h
    simp only [List.length_cons, RVs.length h3]
theorem RVs.nil : RVs g ρ n H [] [] := by unfold RVs; rfl
theorem RVs.cons {x : A} {xs : List A} {y : V} {ys : List V} (h : RV g ρ n H x y) (t : RVs g ρ n H xs ys) : RVs g ρ n H (x :: xs) (y :: ys) := by unfold RVs; exact ⟨y, ys, rfl, h, t⟩
theorem RVs.uncons {x : A} {xs : List A} {ys : List V} (h : RVs g ρ n H (x :: xs) ys) : ∃ y r, ys = y :: r ∧ RV g ρ n H x y ∧ RVs g ρ n H xs r := by unfold RVs at h; exact h
theorem RVs.unnil {ys : List V} (h : RVs g ρ n H [] ys) : ys = [] := by unfold RVs at h; exact h
theorem RVs.one {x : A} {ys : List V} (h : RVs g ρ n H [x] ys) : ∃ y, ys = [y] ∧ RV g ρ n H x y := by
  obtain ⟨y, r, rfl, h1, h2⟩ := h.uncons
  exact ⟨y, by rw [h2.unnil], h1⟩
theorem RVs.two {x x' : A} {ys : List V} (h : RVs g ρ n H [x, x'] ys) : ∃ y y', ys = [y, y'] ∧ RV g ρ n H x y ∧ RV g ρ n H x' y' := by
  obtain ⟨y, r, rfl, h1, h2⟩ := h.uncons
  obtain ⟨y', rfl, h3⟩ := h2.one
  exact ⟨y, y', rfl, h1, h3⟩
theorem RVs.get : ∀ {xs : List A} {ys : List V} {i : Nat} {x : A}, RVs g ρ n H xs ys → xs[i]? = some x → ∃ y, ys[i]? = some y ∧ RV g ρ n H x y
  | [], _, _, _, _, e => by simp at e
  | x :: xs, _, 0, z, h, e => by
    obtain ⟨y, r, rfl, h1, _⟩ := h.uncons
    cases e
    exact ⟨y, rfl, h1⟩
  | x :: xs, _, i + 1, z, h, e => by
    obtain ⟨y, r, rfl, _, h2⟩ := h.uncons
    obtain ⟨w, h3, h4⟩ := RVs.get (i := i) h2 (by simpa using e)
    exact ⟨w, by simpa using h3, h4⟩
theorem RVs.append : ∀ {xs xs' : List A} {ys ys' : List V}, RVs g ρ n H xs ys → RVs g ρ n H xs' ys' → RVs g ρ n H (xs ++ xs') (ys ++ ys')
  | [], _, _, _, h, h' => by rw [h.unnil]; exact h'
  | x :: xs, _, _, _, h, h' => by
    obtain ⟨y, r, rfl, h1, h2⟩ := h.uncons
    exact .cons h1 (RVs.append h2 h')
theorem RVs.take : ∀ {xs : List A} {ys : List V} (k : Nat), RVs g ρ n H xs ys → RVs g ρ n H (xs.take k) (ys.take k)
  | _, _, 0, _ => .nil
  | [], _, _ + 1, h => by rw [h.unnil]; exact .nil
  | x :: xs, _, k + 1, h => by
    obtain ⟨y, r, rfl, h1, h2⟩ := h.uncons
    exact .cons h1 (RVs.take k h2)
theorem RVs.drop : ∀ {xs : List A} {ys : List V} (k : Nat), RVs g ρ n H xs ys → RVs g ρ n H (xs.drop k) (ys.drop k)
  | _, _, 0, h => h
  | [], _, _ + 1, h => by rw [h.unnil]; exact .nil
  | x :: xs, _, k + 1, h => by
    obtain ⟨y, r, rfl, _, h2⟩ := h.uncons
    exact RVs.drop k h2
theorem RVs.set : ∀ {xs : List A} {ys : List V} {x : A} {y : V} (k : Nat), RVs g ρ n H xs ys → RV g ρ n H x y → RVs g ρ n H (xs.set k x) (ys.set k y)
  | [], _, _, _, _, h, _ => by rw [h.unnil]; exact .nil
  | a :: xs, _, _, _, 0, h, h' => by
    obtain ⟨y, r, rfl, _, h2⟩ := h.uncons
    exact .cons h' h2
  | a :: xs, _, _, _, k + 1, h, h' => by
    obtain ⟨y, r, rfl, h1, h2⟩ := h.uncons
    exact .cons h1 (RVs.set k h2 h')
theorem RVs.eraseIdx : ∀ {xs : List A} {ys : List V} (k : Nat), RVs g ρ n H xs ys → RVs g ρ n H (xs.eraseIdx k) (ys.eraseIdx k)
  | [], _, _, h => by rw [h.unnil]; exact .nil
  | a :: xs, _, 0, h => by
    obtain ⟨y, r, rfl, _, h2⟩ := h.uncons
    exact h2
  | a :: xs, _, k + 1, h => by
    obtain ⟨y, r, rfl, h1, h2⟩ := h.uncons
    exact .cons h1 (RVs.eraseIdx k h2)
theorem RVs.reverse : ∀ {xs : List A} {ys : List V}, RVs g ρ n H xs ys → RVs g ρ n H xs.reverse ys.reverse
  | [], _, h => by rw [h.unnil]; exact .nil
  | a :: xs, _, h => by
    obtain ⟨y, r, rfl, h1, h2⟩ := h.uncons
    rw [List.reverse_cons, List.reverse_cons]; exact RVs.append (RVs.reverse h2) (.cons h1 .nil)
end

/-! ### dicts -/
/-- a key's value -/
def kA : NestedKey → A
  | .none => .non
  | .num i => .int i
  | .text x => .str x
  | .tup ks => .tup (kAs ks)
where kAs : List NestedKey → List A
  | [] => []
  | k :: ks => kA k :: kAs ks
/-- the raw dict: keys, the keys' values, the values -/
def DRaw (w : World) (d : Addr) (vs : List (NestedKey × Value × Value)) (h : Heap) : Prop :=
  ∃ o es ep, h.get? d = some o ∧ o.ExactDict ∧ o.data = .dict es ep ∧ es.toList = vs.map (fun x => (⟨x.1.hash w, x.2.1, x.2.2⟩ : DictEntry)) ∧ (vs.map (·.1)).Nodup
def dO (w : World) (d : Addr) (vs : List (NestedKey × Value × Value)) : HO := .ext (DRaw w d vs)
/-- a raw value is a -/
def RU (g : Gl) (ρ : Nat → Addr) (n : Nat) (H : Hp) (a : A) (u : Value) : Prop := ∃ v, RelV v u ∧ RV g ρ n H a v
def RE (g : Gl) (ρ : Nat → Addr) (n : Nat) (H : Hp) (x : NestedKey × A) (y : NestedKey × Value × Value) : Prop := x.1 = y.1 ∧ RU g ρ n H (kA x.1) y.2.1 ∧ RU g ρ n H x.2 y.2.2
/-- a tuple, or an int or a text -/
def kind : NestedKey → Option Bool
  | .tup _ => some true
  | .num _ => some false
  | .text _ => some false
  | .none => none
structure RD (g : Gl) (ρ : Nat → Addr) (n : Nat) (H : Hp) (p : Addr) (kvs : List (NestedKey × A)) (vs : List (NestedKey × Value × Value)) : Prop where
  sys : (p == sysModules) = false
  rel : Paired (RE g ρ n H) kvs vs
  uni : ∃ b, ∀ x ∈ kvs, kind x.1 = some b ∧ x.1.depth ≤ 8
  dup : (kvs.map (·.1)).Nodup
  len : kvs.length ≤ sizeLine
def RF (H : Hp) (p : Addr) (u : HO) : Bool → Prop
  | false => H p = some u
  | true => ∃ o, H p = some (.frz o u)
def RO (g : Gl) (ρ : Nat → Addr) (n : Nat) (H : Hp) (p : Addr) : O → Prop
  | .lst xs => ∃ ys, H p = some (.lst ys) ∧ RVs g ρ n H xs ys
  | .dct fz kvs => ∃ vs, RD g ρ n H p kvs vs ∧ RF H p (dO g.w p vs) fz
section
variable {g : Gl} {ρ ρ' : Nat → Addr} {n n' : Nat} {H H' : Hp} {p : Addr}
theorem RE.imp {x : NestedKey × A} {y : NestedKey × Value × Value} (m : ∀ a v, RV g ρ n H a v → RV g ρ' n' H' a v) (r : RE g ρ n H x y) : RE g ρ' n' H' x y :=
  ⟨r.1, (let ⟨v, h1, h2⟩ := r.2.1; ⟨v, h1, m _ _ h2⟩), let ⟨v, h1, h2⟩ := r.2.2; ⟨v, h1, m _ _ h2⟩⟩
theorem RD.imp {kvs : List (NestedKey × A)} {vs : List (NestedKey × Value × Value)} (m : ∀ a v, RV g ρ n H a v → RV g ρ' n' H' a v) (r : RD g ρ n H p kvs vs) : RD g ρ' n' H' p kvs vs :=
  ⟨r.sys, Paired.mapP r.rel fun _ _ h => h.imp m, r.uni, r.dup, r.len⟩
theorem RF.imp {u : HO} {fz : Bool} (q : ∀ u, H p = some u → H' p = some u) (r : RF H p u fz) : RF H' p u fz := by
  cases fz with
  | false => exact q _ r
  | true => obtain ⟨o, e⟩ := r; exact ⟨o, q _ e⟩
theorem RF.ex {w : World} {u : List (NestedKey × Value × Value)} {fz : Bool} (r : RF H p (dO w p u) fz) : ∃ o, H p = some o ∧ ∀ xs, o ≠ .tup xs := by
  cases fz with
  | false => exact ⟨_, r, fun _ z => nomatch z⟩
  | true => obtain ⟨o, e⟩ := r; exact ⟨_, e, fun _ z => nomatch z⟩
end

structure RH (g : Gl) (ρ : Nat → Addr) (H : Hp) (h : Ah) : Prop where
  len : h.os.length = h.n
  inj : ∀ i j, i < h.n → j < h.n → ρ i = ρ j → i = j
  obj : ∀ k o, h.get k = some o → RO g ρ h.n H (ρ k) o

section
variable {g : Gl} {ρ : Nat → Addr} {H : Hp} {h : Ah}
theorem RH.at (r : RH g ρ H h) {k : Nat} (hk : k < h.n) : ∃ o, h.get k = some o := by
  have := getO_some (os := h.os) (k := k) (by rw [r.len]; exact hk)
  rw [r.len] at this
  exact this
theorem RH.lt (r : RH g ρ H h) {k : Nat} {o : O} (e : h.get k = some o) : k < h.n := by
  have e : getO h.os h.n k = some o := e
  rw [← r.len] at e ⊢
  exact getO_lt e
theorem RH.lst (r : RH g ρ H h) {k : Nat} {xs : List A} (e : h.get k = some (.lst xs)) : ∃ ys, H (ρ k) = some (.lst ys) ∧ RVs g ρ h.n H xs ys := r.obj k _ e
/-- no tuple, and nothing that is gone, lies at an abstract object's place -/
theorem RH.there (r : RH g ρ H h) {k : Nat} (hk : k < h.n) : ∃ o, H (ρ k) = some o ∧ ∀ xs, o ≠ .tup xs := by
  obtain ⟨o, e⟩ := r.at hk
  have := r.obj k o e
  cases o with
  | lst xs => obtain ⟨ys, h1, _⟩ := this; exact ⟨_, h1, fun _ q => nomatch q⟩
  | dct fz kvs => obtain ⟨vs, _, h2⟩ := this; exact h2.ex
theorem RH.nil (g : Gl) (ρ : Nat → Addr) (H : Hp) : RH g ρ H Ah.nil := ⟨rfl, fun i j hi => by simp [Ah.nil] at hi, fun k o e => by simp [Ah.get, Ah.nil, getO] at e⟩

/-- an upd at a place that is free -/
theorem ext_new {n : Nat} {p : Addr} {o : HO} (hp : H p = none) : Ext ρ n H ρ n (upd H p o) :=
  ⟨Nat.le_refl _, fun _ _ => rfl, fun _ h1 h2 => by omega, fun a xs q => by rw [upd_ne (ne_of_none q hp)]; exact q, fun a u q _ => by rw [upd_ne (ne_of_none q hp)]; exact q,
    fun a q => by
      by_cases e : a = p
      · subst e; exact hp
      · rw [upd_ne e] at q; exact q, fun a u x q => by rw [upd_ne (ne_of_none q hp)]; exact q⟩
/-- .. that becomes the next abstract object's -/
def put (ρ : Nat → Addr) (n : Nat) (p : Addr) : Nat → Addr := fun k => if k = n then p else ρ k
theorem put_ne {n k : Nat} {p : Addr} (h : k < n) : put ρ n p k = ρ k := if_neg (Nat.ne_of_lt h)
theorem put_same {n : Nat} {p : Addr} : put ρ n p n = p := if_pos rfl
theorem ext_put {n : Nat} {p : Addr} {o : HO} (hp : H p = none) : Ext ρ n H (put ρ n p) (n + 1) (upd H p o) :=
  ⟨Nat.le_succ _, fun k hk => put_ne hk, fun k h1 h2 => by
      have : k = n := by omega
      subst this
      rw [put_same]; exact hp, (ext_new (ρ := ρ) (n := n) hp).tp, (ext_new (ρ := ρ) (n := n) hp).fr, (ext_new (ρ := ρ) (n := n) hp).gn, (ext_new (ρ := ρ) (n := n) hp).fz⟩
theorem RO.mono {ρ' : Nat → Addr} {n n' : Nat} {H' : Hp} {p : Addr} {o : O} (e : Ext ρ n H ρ' n' H') (q : ∀ u, H p = some u → H' p = some u) (r : RO g ρ n H p o) : RO g ρ' n' H' p o := by
  cases o with
  | lst xs =>
    obtain ⟨ys, h1, h2⟩ := r
    exact ⟨ys, q _ h1, h2.mono e⟩
  | dct fz kvs =>
    obtain ⟨vs, h1, h2⟩ := r
    exact ⟨vs, h1.imp fun _ _ h => h.mono e, h2.imp q⟩
/-- all that was tracked stands: the abstract heap as it is -/
theorem RH.mono {H' : Hp} (r : RH g ρ H h) (e : Ext ρ h.n H ρ h.n H') (q : ∀ k, k < h.n → ∀ u, H (ρ k) = some u → H' (ρ k) = some u) : RH g ρ H' h :=
  ⟨r.len, r.inj, fun k o ek => (r.obj k o ek).mono e (q k (r.lt ek))⟩
theorem RH.new {p : Addr} {o : HO} (r : RH g ρ H h) (hp : H p = none) : RH g ρ (upd H p o) h :=
  r.mono (ext_new hp) fun k _ u q => by rw [upd_ne (ne_of_none q hp)]; exact q
theorem get_push {h : Ah} {x : O} {k : Nat} (hl : h.os.length = h.n) : (h.push x).get k = if k = h.n then some x else h.get k := by
  by_cases e : k = h.n
  · subst e
    rw [if_pos rfl]
    show getO (x :: h.os) (h.n + 1) h.n = _
    rw [← hl]; exact getO_top
  · rw [if_neg e]
    show (match Nat.beq (k + 1) (h.n + 1) with | true => some x | false => getO h.os (h.n + 1 - 1) k) = getO h.os h.n k
    have q : Nat.beq (k + 1) (h.n + 1) = false := by
      cases q : Nat.beq (k + 1) (h.n + 1) with
      | false => rfl
      | true => have := Nat.eq_of_beq_eq_true q; omega
    rw [q]
    rfl
theorem get_set {h : Ah} {x : O} {k j : Nat} (hl : h.os.length = h.n) (hk : k < h.n) : (h.set k x).get j = if j = k then some x else h.get j := by
  show getO (setO x h.os h.n k) h.n j = _
  rw [← hl] at hk ⊢
  have := getO_setO x (os := h.os) (k := k) (j := j) hk
  rw [this]
  show _ = if j = k then some x else getO h.os h.n j
  rw [hl]
/-- a new list -/
theorem RH.push {p : Addr} {xs : List A} {ys : List V} (r : RH g ρ H h) (hp : H p = none) (rv : RVs g ρ h.n H xs ys) : RH g (put ρ h.n p) (upd H p (.lst ys)) (h.push (.lst xs)) := by
  have e : Ext ρ h.n H (put ρ h.n p) (h.n + 1) (upd H p (.lst ys)) := ext_put hp
  refine ⟨by show h.os.length + 1 = h.n + 1; rw [r.len], fun i j hi hj q => ?_, fun k o ek => ?_⟩
  · have hi : i < h.n + 1 := hi
    have hj : j < h.n + 1 := hj
    by_cases h1 : i < h.n <;> by_cases h2 : j < h.n
    · rw [put_ne h1, put_ne h2] at q; exact r.inj i j h1 h2 q
    · have : j = h.n := by omega
      subst this
      rw [put_ne h1, put_same] at q
      obtain ⟨o, ho, _⟩ := r.there h1
      rw [q, hp] at ho; cases ho
    · have : i = h.n := by omega
      subst this
      rw [put_ne h2, put_same] at q
      obtain ⟨o, ho, _⟩ := r.there h2
      rw [← q, hp] at ho; cases ho
    · omega
  · rw [get_push r.len] at ek
    by_cases hk : k = h.n
    · subst hk
      rw [if_pos rfl] at ek
      cases ek
      rw [put_same]
      exact ⟨ys, upd_same, rv.mono e⟩
    · rw [if_neg hk] at ek
      have hlt := r.lt ek
      rw [put_ne hlt]
      exact (r.obj k o ek).mono e fun u q => by rw [upd_ne (ne_of_none q hp)]; exact q
/-- a new thing -/
theorem RH.pushO {p : Addr} {x : O} {u : HO} (r : RH g ρ H h) (hp : H p = none) (ro : RO g (put ρ h.n p) (h.n + 1) (upd H p u) p x) : RH g (put ρ h.n p) (upd H p u) (h.push x) := by
  have e : Ext ρ h.n H (put ρ h.n p) (h.n + 1) (upd H p u) := ext_put hp
  refine ⟨by show h.os.length + 1 = h.n + 1; rw [r.len], fun i j hi hj q => ?_, fun k o ek => ?_⟩
  · have hi : i < h.n + 1 := hi
    have hj : j < h.n + 1 := hj
    by_cases h1 : i < h.n <;> by_cases h2 : j < h.n
    · rw [put_ne h1, put_ne h2] at q; exact r.inj i j h1 h2 q
    · have : j = h.n := by omega
      subst this
      rw [put_ne h1, put_same] at q
      obtain ⟨o, ho, _⟩ := r.there h1
      rw [q, hp] at ho; cases ho
    · have : i = h.n := by omega
      subst this
      rw [put_ne h2, put_same] at q
      obtain ⟨o, ho, _⟩ := r.there h2
      rw [← q, hp] at ho; cases ho
    · omega
  · rw [get_push r.len] at ek
    by_cases hk : k = h.n
    · subst hk
      rw [if_pos rfl] at ek
      cases ek
      rw [put_same]
      exact ro
    · rw [if_neg hk] at ek
      have hlt := r.lt ek
      rw [put_ne hlt]
      exact (r.obj k o ek).mono e fun u q => by rw [upd_ne (ne_of_none q hp)]; exact q
/-- a list is changed -/
theorem ext_wr {k : Nat} {u u' : HO} (r : RH g ρ H h) (hk : k < h.n) (hy : H (ρ k) = some u) (nt : ∀ xs, u ≠ .tup xs) (nf : ∀ o x, u ≠ .frz o x) : Ext ρ h.n H ρ h.n (upd H (ρ k) u') :=
  ⟨Nat.le_refl _, fun _ _ => rfl, fun _ h1 h2 => by omega, fun a zs q => by
      have : a ≠ ρ k := fun z => by subst z; rw [hy] at q; cases q; exact nt _ rfl
      rw [upd_ne this]; exact q, fun a u q z => by rw [upd_ne (fun w => z k hk w.symm)]; exact q,
    fun a q => by
      by_cases z : a = ρ k
      · subst z; rw [upd_same] at q; cases q
      · rw [upd_ne z] at q; exact q, fun a o x q => by
      have : a ≠ ρ k := fun z => by subst z; rw [hy] at q; cases q; exact nf _ _ rfl
      rw [upd_ne this]; exact q⟩
theorem ext_upd {k : Nat} {ys ys' : List V} (r : RH g ρ H h) (hk : k < h.n) (hy : H (ρ k) = some (.lst ys)) : Ext ρ h.n H ρ h.n (upd H (ρ k) (.lst ys')) :=
  ext_wr r hk hy (fun _ q => nomatch q) fun _ _ q => nomatch q
/-- an abstract object is replaced -/
theorem RH.wr {k : Nat} {x : O} {u u' : HO} (r : RH g ρ H h) (hk : k < h.n) (hy : H (ρ k) = some u) (nt : ∀ xs, u ≠ .tup xs) (mo : ∀ a v, RV g ρ h.n H a v → RV g ρ h.n (upd H (ρ k) u') a v) (ro : RO g ρ h.n (upd H (ρ k) u') (ρ k) x) : RH g ρ (upd H (ρ k) u') (h.set k x) := by
  refine ⟨by show (setO _ _ _ _).length = h.n; rw [setO_length, r.len], r.inj, fun j o ej => ?_⟩
  rw [get_set r.len hk] at ej
  by_cases hj : j = k
  · subst hj
    rw [if_pos rfl] at ej
    cases ej
    exact ro
  · rw [if_neg hj] at ej
    have hlt := r.lt ej
    have q : ∀ u, H (ρ j) = some u → (upd H (ρ k) u') (ρ j) = some u := fun u q => by rw [upd_ne (fun z => hj (r.inj j k hlt hk z))]; exact q
    have := r.obj j o ej
    cases o with
    | lst xs =>
      obtain ⟨ys, h1, h2⟩ := this
      refine ⟨ys, q _ h1, ?_⟩
      clear h1
      show RVs _ _ _ _ _ _
      have mos : ∀ {xs : List A} {ys : List V}, RVs g ρ h.n H xs ys → RVs g ρ h.n (upd H (ρ k) u') xs ys := by
        intro xs
        induction xs with
        | nil => intro ys h; rw [h.unnil]; exact .nil
        | cons x xs ih => intro ys h; obtain ⟨y, r, rfl, h1, h2⟩ := h.uncons; exact .cons (mo _ _ h1) (ih h2)
      exact mos h2
    | dct fz kvs =>
      obtain ⟨vs, h1, h2⟩ := this
      exact ⟨vs, h1.imp mo, h2.imp q⟩
theorem RH.upd {k : Nat} {xs : List A} {ys ys' : List V} (r : RH g ρ H h) (hk : k < h.n) (hy : H (ρ k) = some (.lst ys)) (rv : RVs g ρ h.n H xs ys') : RH g ρ (upd H (ρ k) (.lst ys')) (h.set k (.lst xs)) := by
  have e := ext_upd (ys' := ys') r hk hy
  refine ⟨by show (setO _ _ _ _).length = h.n; rw [setO_length, r.len], r.inj, fun j o ej => ?_⟩
  rw [get_set r.len hk] at ej
  by_cases hj : j = k
  · subst hj
    rw [if_pos rfl] at ej
    cases ej
    exact ⟨ys', upd_same, rv.mono e⟩
  · rw [if_neg hj] at ej
    have hlt := r.lt ej
    exact (r.obj j o ej).mono e fun u q => by
      rw [upd_ne (fun z => hj (r.inj j k hlt hk z))]; exact q
end

/-- what values lean on -/
structure Tp (ρ : Nat → Addr) (n : Nat) (H : Hp) (ρ' : Nat → Addr) (n' : Nat) (H' : Hp) : Prop where
  le : n ≤ n'
  ag : ∀ k, k < n → ρ' k = ρ k
  tp : ∀ a xs, H a = some (.tup xs) → H' a = some (.tup xs)
  fz : ∀ a o u, H a = some (.frz o u) → H' a = some (.frz o u)
theorem Ext.to {ρ ρ' : Nat → Addr} {n n' : Nat} {H H' : Hp} (e : Ext ρ n H ρ' n' H') : Tp ρ n H ρ' n' H' := ⟨e.le, e.ag, e.tp, e.fz⟩
theorem Tp.refl {ρ : Nat → Addr} {n : Nat} {H : Hp} : Tp ρ n H ρ n H := ⟨Nat.le_refl _, fun _ _ => rfl, fun _ _ h => h, fun _ _ _ h => h⟩
theorem Tp.trans {ρ ρ1 ρ2 : Nat → Addr} {n n1 n2 : Nat} {H H1 H2 : Hp} (a : Tp ρ n H ρ1 n1 H1) (b : Tp ρ1 n1 H1 ρ2 n2 H2) : Tp ρ n H ρ2 n2 H2 :=
  ⟨Nat.le_trans a.le b.le, fun k h => (b.ag k (Nat.lt_of_lt_of_le h a.le)).trans (a.ag k h), fun x xs h => b.tp x xs (a.tp x xs h), fun x o u h => b.fz x o u (a.fz x o u h)⟩
/-- .. the tuples alone -/
structure Tq (ρ : Nat → Addr) (n : Nat) (H : Hp) (ρ' : Nat → Addr) (n' : Nat) (H' : Hp) : Prop where
  le : n ≤ n'
  ag : ∀ k, k < n → ρ' k = ρ k
  tp : ∀ a xs, H a = some (.tup xs) → H' a = some (.tup xs)
theorem Tp.q {ρ ρ' : Nat → Addr} {n n' : Nat} {H H' : Hp} (e : Tp ρ n H ρ' n' H') : Tq ρ n H ρ' n' H' := ⟨e.le, e.ag, e.tp⟩
mutual
theorem RV.monoQ {g : Gl} {ρ ρ' : Nat → Addr} {n n' : Nat} {H H' : Hp} (e : Tq ρ n H ρ' n' H') : ∀ {a : A} {v : V}, RV g ρ n H a v → RV g ρ' n' H' a v
  | .non, _, h => by unfold RV at h ⊢; exact h
  | .bl _, _, h => by unfold RV at h ⊢; exact h
  | .int _, _, h => by unfold RV at h ⊢; exact h
  | .str _, _, h => by unfold RV at h ⊢; exact h
  | .ty _, _, h => by unfold RV at h ⊢; exact h
  | .fn _, _, h => by unfold RV at h ⊢; exact h
  | .opq, _, h => by unfold RV at h ⊢; exact h
  | .exc _, _, h => by unfold RV at h ⊢; exact h
  | .ref k, _, h => by
    unfold RV at h ⊢
    exact ⟨Nat.lt_of_lt_of_le h.1 e.le, by rw [e.ag k h.1]; exact h.2⟩
  | .tup xs, _, h => by
    unfold RV at h ⊢
    obtain ⟨p, ys, h1, h2, h3⟩ := h
    exact ⟨p, ys, h1, e.tp p ys h2, RVs.monoQ e h3⟩
theorem RVs.monoQ {g : Gl} {ρ ρ' : Nat → Addr} {n n' : Nat} {H H' : Hp} (e : Tq ρ n H ρ' n' H') : ∀ {xs : List A} {ys : List V}, RVs g ρ n H xs ys → RVs g ρ' n' H' xs ys
  | [], _, h => by unfold RVs at h ⊢; exact h
  | x :: xs, _, h => by
    unfold RVs at h ⊢
    obtain ⟨y, r, h1, h2, h3⟩ := h
    exact ⟨y, r, h1, RV.monoQ e h2, RVs.monoQ e h3⟩
end
theorem RV.monoT {g : Gl} {ρ ρ' : Nat → Addr} {n n' : Nat} {H H' : Hp} (e : Tp ρ n H ρ' n' H') {a : A} {v : V} (h : RV g ρ n H a v) : RV g ρ' n' H' a v := h.monoQ e.q
theorem RVs.monoT {g : Gl} {ρ ρ' : Nat → Addr} {n n' : Nat} {H H' : Hp} (e : Tp ρ n H ρ' n' H') {xs : List A} {ys : List V} (h : RVs g ρ n H xs ys) : RVs g ρ' n' H' xs ys := h.monoQ e.q
section
variable {g : Gl} {ρ : Nat → Addr} {H : Hp} {h : Ah} {D : Addr} {ys : List V} {o : HO}
theorem tp_own {n : Nat} (hD : H D = some (.lst ys)) : Tp ρ n H ρ n (upd H D o) := ⟨Nat.le_refl _, fun _ _ => rfl, fun a xs q => by
  have : a ≠ D := fun z => by subst z; rw [hD] at q; cases q
  rw [upd_ne this]; exact q, fun a z u q => by
  have : a ≠ D := fun z => by subst z; rw [hD] at q; cases q
  rw [upd_ne this]; exact q⟩
theorem RH.own (r : RH g ρ H h) (hD : H D = some (.lst ys)) (hn : ∀ k, k < h.n → ρ k ≠ D) : RH g ρ (L2.upd H D o) h := by
  refine ⟨r.len, r.inj, fun k ob ek => ?_⟩
  have := r.obj k ob ek
  cases ob with
  | lst xs =>
    obtain ⟨zs, h1, h2⟩ := this
    exact ⟨zs, by rw [upd_ne (hn k (r.lt ek))]; exact h1, h2.monoT (tp_own hD)⟩
  | dct fz kvs =>
    obtain ⟨vs, h1, h2⟩ := this
    exact ⟨vs, h1.imp fun _ _ h => h.monoT (tp_own hD), h2.imp fun u q => by rw [upd_ne (hn k (r.lt ek))]; exact q⟩
theorem ext_over {ρ0 : Nat → Addr} {n0 n : Nat} {H0 : Hp} (e : Ext ρ0 n0 H0 ρ n H) (h0 : H0 D = none) : Ext ρ0 n0 H0 ρ n (upd H D o) where
  le := e.le
  ag := e.ag
  nw := e.nw
  tp := fun a xs q => by rw [upd_ne (ne_of_none q h0)]; exact e.tp a xs q
  fr := fun a u q z => by rw [upd_ne (ne_of_none q h0)]; exact e.fr a u q z
  gn := fun a q => by
    by_cases z : a = D
    · subst z; exact h0
    · rw [upd_ne z] at q; exact e.gn a q
  fz := fun a x u q => by rw [upd_ne (ne_of_none q h0)]; exact e.fz a x u q
/-- what is not tracked stays so -/
theorem Ext.out {ρ' : Nat → Addr} {n n' : Nat} {H' : Hp} (e : Ext ρ n H ρ' n' H') {u : HO} (hD : H D = some u) (hn : ∀ k, k < n → ρ k ≠ D) : ∀ k, k < n' → ρ' k ≠ D := fun k hk z => by
  by_cases q : k < n
  · rw [e.ag k q] at z; exact hn k q z
  · have := e.nw k (by omega) hk
    rw [z, hD] at this; cases this
/-- a list of one's own becomes an abstract object -/
theorem RH.adopt {xs : List A} (r : RH g ρ H h) (hD : H D = some (.lst ys)) (hn : ∀ k, k < h.n → ρ k ≠ D) (rv : RVs g ρ h.n H xs ys) : RH g (put ρ h.n D) H (h.push (.lst xs)) := by
  have e : Tp ρ h.n H (put ρ h.n D) (h.n + 1) H := ⟨Nat.le_succ _, fun k hk => put_ne hk, fun _ _ q => q, fun _ _ _ q => q⟩
  refine ⟨by show h.os.length + 1 = h.n + 1; rw [r.len], fun i j hi hj q => ?_, fun k o ek => ?_⟩
  · have hi : i < h.n + 1 := hi
    have hj : j < h.n + 1 := hj
    by_cases h1 : i < h.n <;> by_cases h2 : j < h.n
    · rw [put_ne h1, put_ne h2] at q; exact r.inj i j h1 h2 q
    · have : j = h.n := by omega
      subst this
      rw [put_ne h1, put_same] at q
      exact (hn i h1 q).elim
    · have : i = h.n := by omega
      subst this
      rw [put_ne h2, put_same] at q
      exact (hn j h2 q.symm).elim
    · omega
  · rw [get_push r.len] at ek
    by_cases hk : k = h.n
    · subst hk
      rw [if_pos rfl] at ek
      cases ek
      rw [put_same]
      exact ⟨ys, hD, rv.monoT e⟩
    · rw [if_neg hk] at ek
      have hlt := r.lt ek
      rw [put_ne hlt]
      have := r.obj k o ek
      cases o with
      | lst zs => obtain ⟨us, h1, h2⟩ := this; exact ⟨us, h1, h2.monoT e⟩
      | dct fz kvs =>
        obtain ⟨vs, h1, h2⟩ := this
        exact ⟨vs, h1.imp fun _ _ h => h.monoT e, h2⟩
theorem Ext.adopt {ρ0 : Nat → Addr} {n0 n : Nat} {H0 : Hp} (e : Ext ρ0 n0 H0 ρ n H) (h0 : H0 D = none) : Ext ρ0 n0 H0 (put ρ n D) (n + 1) H :=
  ⟨Nat.le_succ_of_le e.le, fun k hk => by rw [put_ne (Nat.lt_of_lt_of_le hk e.le)]; exact e.ag k hk, fun k h1 h2 => by
    by_cases q : k < n
    · rw [put_ne q]; exact e.nw k h1 q
    · have : k = n := by omega
      subst this
      rw [put_same]; exact h0, e.tp, e.fr, e.gn, e.fz⟩
end

/-! ### slots -/
abbrev Sa := List (Option A)
def RS (g : Gl) (ρ : Nat → Addr) (n : Nat) (H : Hp) : Sa → St → Prop
  | [], σ => σ = []
  | none :: s, σ => ∃ v r, σ = v :: r ∧ RS g ρ n H s r
  | some a :: s, σ => ∃ v r, σ = some v :: r ∧ RV g ρ n H a v ∧ RS g ρ n H s r
section
variable {g : Gl} {ρ ρ' : Nat → Addr} {n n' : Nat} {H H' : Hp}
theorem RS.mono (e : Ext ρ n H ρ' n' H') : ∀ {s : Sa} {σ : St}, RS g ρ n H s σ → RS g ρ' n' H' s σ
  | [], _, h => (show _ = [] from h)
  | none :: s, _, ⟨v, r, h1, h2⟩ => ⟨v, r, h1, RS.mono e h2⟩
  | some a :: s, _, ⟨v, r, h1, h2, h3⟩ => ⟨v, r, h1, h2.mono e, RS.mono e h3⟩
theorem RS.monoQ (e : Tq ρ n H ρ' n' H') : ∀ {s : Sa} {σ : St}, RS g ρ n H s σ → RS g ρ' n' H' s σ
  | [], _, h => (show _ = [] from h)
  | none :: s, _, ⟨v, r, h1, h2⟩ => ⟨v, r, h1, RS.monoQ e h2⟩
  | some a :: s, _, ⟨v, r, h1, h2, h3⟩ => ⟨v, r, h1, h2.monoQ e, RS.monoQ e h3⟩
theorem RS.monoT (e : Tp ρ n H ρ' n' H') {s : Sa} {σ : St} (h : RS g ρ n H s σ) : RS g ρ' n' H' s σ := h.monoQ e.q
theorem RS.get : ∀ {s : Sa} {σ : St} {i : Nat} {a : A}, RS g ρ n H s σ → s[i]? = some (some a) → ∃ v, σ[i]? = some (some v) ∧ RV g ρ n H a v
  | [], _, _, _, _, e => by simp at e
  | none :: s, _, 0, _, _, e => by simp at e
  | some a :: s, _, 0, _, ⟨v, r, h1, h2, h3⟩, e => by cases e; subst h1; exact ⟨v, rfl, h2⟩
  | none :: s, _, i + 1, _, ⟨v, r, h1, h2⟩, e => by subst h1; exact RS.get (i := i) h2 (by simpa using e)
  | some a :: s, _, i + 1, _, ⟨v, r, h1, h2, h3⟩, e => by subst h1; exact RS.get (i := i) h3 (by simpa using e)
theorem RS.set {a : A} {v : V} (rv : RV g ρ n H a v) : ∀ {s : Sa} {σ : St} (i : Nat), RS g ρ n H s σ → RS g ρ n H (s.set i (some a)) (σ.set i (some v))
  | [], _, _, h => by rw [show _ = [] from h]; rfl
  | none :: s, _, 0, ⟨w, r, h1, h2⟩ => by subst h1; exact ⟨v, r, rfl, rv, h2⟩
  | some b :: s, _, 0, ⟨w, r, h1, h2, h3⟩ => by subst h1; exact ⟨v, r, rfl, rv, h3⟩
  | none :: s, _, i + 1, ⟨w, r, h1, h2⟩ => by subst h1; exact ⟨w, _, rfl, RS.set rv i h2⟩
  | some b :: s, _, i + 1, ⟨w, r, h1, h2, h3⟩ => by subst h1; exact ⟨w, _, rfl, h2, RS.set rv i h3⟩
theorem RS.forget : ∀ {s : Sa} {σ : St} (i : Nat), RS g ρ n H s σ → RS g ρ n H (s.set i none) (σ.set i none)
  | [], _, _, h => by rw [show _ = [] from h]; rfl
  | none :: s, _, 0, ⟨w, r, h1, h2⟩ => by subst h1; exact ⟨none, r, rfl, h2⟩
  | some b :: s, _, 0, ⟨w, r, h1, h2, h3⟩ => by subst h1; exact ⟨none, r, rfl, h3⟩
  | none :: s, _, i + 1, ⟨w, r, h1, h2⟩ => by subst h1; exact ⟨w, _, rfl, RS.forget i h2⟩
  | some b :: s, _, i + 1, ⟨w, r, h1, h2, h3⟩ => by subst h1; exact ⟨w, _, rfl, h2, RS.forget i h3⟩
def wipeA (s : Sa) : List Nat → Sa
  | [] => s
  | v :: vs => (wipeA s vs).set v none
theorem RS.wipe {s : Sa} {σ : St} (h : RS g ρ n H s σ) : ∀ vs : List Nat, RS g ρ n H (wipeA s vs) (L2.wipe σ vs)
  | [] => h
  | v :: vs => RS.forget v (RS.wipe h vs)
end

/-! ### results -/
inductive Rs (α : Type) where
  | ok (a : α) (h : Ah) | ex (c : Nat) (h : Ah) | no
def Rs.bind {α β : Type} : Rs α → (α → Ah → Rs β) → Rs β
  | .ok a h, k => k a h
  | .ex c h, _ => .ex c h
  | .no, _ => .no

/-- what is so behind a run: at every matched end -/
def Post {α : Type} (g : Gl) (W : WX) (ρ : Nat → Addr) (n : Nat) (H : Hp) (σ : St) (Q : α → (Nat → Addr) → Ah → Hp → Prop) : Rs α → Prop
  | .ok v h' => ∀ ρ' H', Ext ρ n H ρ' h'.n H' → RH g ρ' H' h' → Q v ρ' h' H'
  | .ex c h' => ∀ ρ' H', Ext ρ n H ρ' h'.n H' → RH g ρ' H' h' → W (.ref (g.ca c)) none σ H'
  | .no => False
theorem Post.seq {α β : Type} {g : Gl} {W : WX} {ρ ρc : Nat → Addr} {n nc : Nat} {H Hc : Hp} {σ : St} {Qb : β → (Nat → Addr) → Ah → Hp → Prop} {Qa : α → (Nat → Addr) → Ah → Hp → Prop} {r : Rs α} {k : α → Ah → Rs β}
    (ec : Ext ρ n H ρc nc Hc) (p : Post g W ρ n H σ Qb (r.bind k))
    (q : ∀ v ρ1 h1 H1, r = .ok v h1 → Ext ρc nc Hc ρ1 h1.n H1 → RH g ρ1 H1 h1 → Post g W ρ n H σ Qb (k v h1) → Qa v ρ1 h1 H1) : Post g W ρc nc Hc σ Qa r := by
  cases r with
  | ok v h1 => exact fun ρ1 H1 e rh => q v ρ1 h1 H1 rfl e rh p
  | ex c h1 => exact fun ρ1 H1 e rh => p ρ1 H1 (ec.trans e) rh
  | no => exact p

abbrev VQ (g : Gl) (Q : VK) : A → (Nat → Addr) → Ah → Hp → Prop := fun v ρ h H => ∀ x, RV g ρ h.n H v x → Q x H
abbrev FE := Sa → Ah → Rs A
/-- the reading of an expression: a run on a matched state says so -/
def rdE (g : Gl) (W : WX) (f : FE) : TE := fun σ H Q => ∃ ρ s h, RS g ρ h.n H s σ ∧ RH g ρ H h ∧ Post g W ρ h.n H σ (VQ g Q) (f s h)
/-- .. of an expression whose value is a new list -/
abbrev LQ (g : Gl) (H0 : Hp) (Q : VK) : List A → (Nat → Addr) → Ah → Hp → Prop := fun xs ρ h H => ∀ p ys, H0 p = none → H p = some (.lst ys) → (∀ k, k < h.n → ρ k ≠ p) → RVs g ρ h.n H xs ys → Q (.ref p) H
end Ev

namespace Ev
open PySem PySem.Spec L2
open PyProof.Rows hiding St

theorem _root_.L2.PE.imp {X : Cx} {e : Expr} {t t' : TE} (h : PE X e t) (f : ∀ σ H Q, t' σ H Q → t σ H Q) : PE X e t' := ⟨fun pins s σ H Q I hw => h.run pins s σ H Q I (f _ _ _ hw)⟩
theorem _root_.L2.PT.imp {X : Cx} {e : Expr} {t t' : TT} (h : PT X e t) (f : ∀ σ H Q, t' σ H Q → t σ H Q) : PT X e t' := ⟨fun pins s σ H Q I hw => h.run pins s σ H Q I (f _ _ _ hw)⟩
theorem _root_.L2.PW.imp {X : Cx} {e : Expr} {t t' : TT} (h : PW X e t) (f : ∀ σ H Q, t' σ H Q → t σ H Q) : PW X e t' := ⟨fun wh pins s σ H Q I hw => h.run wh pins s σ H Q I (f _ _ _ hw)⟩
theorem _root_.L2.PA.imp {X : Cx} {es : List Expr} {t t' : TA} (h : PA X es t) (f : ∀ σ H Q, t' σ H Q → t σ H Q) : PA X es t' := ⟨fun ps pins s σ H Q I hw => h.run ps pins s σ H Q I (f _ _ _ hw)⟩
theorem _root_.L2.PS.imp {X : Cx} {e : Stmt} {t t' : TS} (h : PS X e t) (f : ∀ D σ H, t' D σ H → t D σ H) : PS X e t' := ⟨fun pins s σ H D I hw => h.run pins s σ H D I (f _ _ _ hw)⟩
theorem _root_.L2.PSs.imp {X : Cx} {e : List Stmt} {t t' : TS} (h : PSs X e t) (f : ∀ D σ H, t' D σ H → t D σ H) : PSs X e t' := ⟨fun pins s σ H D I hw => h.run pins s σ H D I (f _ _ _ hw)⟩

abbrev FT := Sa → Ah → Rs Bool
def rdT (g : Gl) (W : WX) (f : FT) : TT := fun σ H Q => ∃ ρ s h, RS g ρ h.n H s σ ∧ RH g ρ H h ∧ Post g W ρ h.n H σ (fun b _ _ H' => Q b H') (f s h)
abbrev FA := Sa → Ah → Rs (List A)
def rdA (g : Gl) (W : WX) (f : FA) : TA := fun σ H Q => ∃ ρ s h, RS g ρ h.n H s σ ∧ RH g ρ H h ∧ Post g W ρ h.n H σ (fun vs ρ' h' H' => ∀ xs, RVs g ρ' h'.n H' vs xs → Q xs H') (f s h)
/-- an expression whose value is a new list -/
def rdL (g : Gl) (W : WX) (f : FA) : TE := fun σ H Q => ∃ ρ s h, RS g ρ h.n H s σ ∧ RH g ρ H h ∧ Post g W ρ h.n H σ (LQ g H Q) (f s h)

section
variable {α β : Type} {g : Gl} {W : WX} {ρ ρc : Nat → Addr} {n : Nat} {H Hc : Hp} {h : Ah} {σ : St} {Q : VK}
theorem Post.now {Qb : α → (Nat → Addr) → Ah → Hp → Prop} {v : α} (p : Post g W ρ n H σ Qb (.ok v h)) (e : Ext ρ n H ρc h.n Hc) (r : RH g ρc Hc h) : Qb v ρc h Hc := p ρc Hc e r
theorem Post.tup {zs : List A} {ys : List V} (p : Post g W ρ n H σ (VQ g Q) (.ok (.tup zs) h)) (e : Ext ρ n H ρc h.n Hc) (r : RH g ρc Hc h) (rv : RVs g ρc h.n Hc zs ys) : ∀ q, Hc q = none → Q (.ref q) (upd Hc q (.tup ys)) := fun q hq =>
  p ρc (upd Hc q (.tup ys)) (e.trans (ext_new hq)) (r.new hq) _ (by unfold RV; exact ⟨q, ys, rfl, upd_same, rv.mono (ext_new hq)⟩)
theorem Post.lst {zs : List A} {ys : List V} (p : Post g W ρ n H σ (VQ g Q) (.ok (.ref h.n) (h.push (.lst zs)))) (e : Ext ρ n H ρc h.n Hc) (r : RH g ρc Hc h) (rv : RVs g ρc h.n Hc zs ys) : ∀ q, Hc q = none → Q (.ref q) (upd Hc q (.lst ys)) := fun q hq =>
  p (put ρc h.n q) (upd Hc q (.lst ys)) (e.trans (ext_put hq)) (r.push hq rv) _ (by unfold RV; exact ⟨Nat.lt_succ_self _, by rw [put_same]⟩)
theorem Post.set {k : Nat} {v : A} {x : V} {zs : List A} {ys ys' : List V} (p : Post g W ρ n H σ (VQ g Q) (.ok v (h.set k (.lst zs)))) (e : Ext ρ n H ρc h.n Hc) (r : RH g ρc Hc h) (hk : k < h.n) (hy : Hc (ρc k) = some (.lst ys)) (rv : RVs g ρc h.n Hc zs ys')
    (rx : RV g ρc h.n Hc v x) : Q x (upd Hc (ρc k) (.lst ys')) :=
  p ρc (upd Hc (ρc k) (.lst ys')) (e.trans (ext_upd r hk hy)) (r.upd hk hy rv) _ (rx.mono (ext_upd r hk hy))
/-- an expression first, then the rest -/
theorem rdE.seq {f : FE} {k : A → Ah → Rs β} {Qb : β → (Nat → Addr) → Ah → Hp → Prop} {s : Sa} {σ' : St} (rs : RS g ρc h.n Hc s σ) (r : RH g ρc Hc h) (e : Ext ρ n H ρc h.n Hc) (p : Post g W ρ n H σ Qb ((f s h).bind k))
    (q : ∀ v x ρ1 h1 H1, Ext ρc h.n Hc ρ1 h1.n H1 → RH g ρ1 H1 h1 → RV g ρ1 h1.n H1 v x → Post g W ρ n H σ Qb (k v h1) → Q x H1) : rdE g W f σ Hc Q :=
  ⟨ρc, s, h, rs, r, Post.seq e p fun v ρ1 h1 H1 _ e1 r1 p1 x rx => q v x ρ1 h1 H1 e1 r1 rx p1⟩
theorem rdA.seq {f : FA} {k : List A → Ah → Rs β} {Qb : β → (Nat → Addr) → Ah → Hp → Prop} {Q : List V → Hp → Prop} {s : Sa} (rs : RS g ρc h.n Hc s σ) (r : RH g ρc Hc h) (e : Ext ρ n H ρc h.n Hc) (p : Post g W ρ n H σ Qb ((f s h).bind k))
    (q : ∀ vs xs ρ1 h1 H1, Ext ρc h.n Hc ρ1 h1.n H1 → RH g ρ1 H1 h1 → RVs g ρ1 h1.n H1 vs xs → Post g W ρ n H σ Qb (k vs h1) → Q xs H1) : rdA g W f σ Hc Q :=
  ⟨ρc, s, h, rs, r, Post.seq e p fun v ρ1 h1 H1 _ e1 r1 p1 x rx => q v x ρ1 h1 H1 e1 r1 rx p1⟩
theorem rdT.seq {f : FT} {k : Bool → Ah → Rs β} {Qb : β → (Nat → Addr) → Ah → Hp → Prop} {Q : Bool → Hp → Prop} {s : Sa} (rs : RS g ρc h.n Hc s σ) (r : RH g ρc Hc h) (e : Ext ρ n H ρc h.n Hc) (p : Post g W ρ n H σ Qb ((f s h).bind k))
    (q : ∀ b ρ1 h1 H1, Ext ρc h.n Hc ρ1 h1.n H1 → RH g ρ1 H1 h1 → Post g W ρ n H σ Qb (k b h1) → Q b H1) : rdT g W f σ Hc Q :=
  ⟨ρc, s, h, rs, r, Post.seq e p fun v ρ1 h1 H1 _ e1 r1 p1 => q v ρ1 h1 H1 e1 r1 p1⟩
/-- the last expression of all -/
theorem rdE.last {f : FE} {s : Sa} (rs : RS g ρc h.n Hc s σ) (r : RH g ρc Hc h) (e : Ext ρ n H ρc h.n Hc) (p : Post g W ρ n H σ (VQ g Q) (f s h)) : rdE g W f σ Hc Q :=
  ⟨ρc, s, h, rs, r, by
    cases q : f s h with
    | ok v h1 => rw [q] at p; exact fun ρ1 H1 e1 r1 => p ρ1 H1 (e.trans e1) r1
    | ex c h1 => rw [q] at p; exact fun ρ1 H1 e1 r1 => p ρ1 H1 (e.trans e1) r1
    | no => rw [q] at p; exact p⟩
theorem rdT.last {f : FT} {s : Sa} {Q : Bool → Hp → Prop} (rs : RS g ρc h.n Hc s σ) (r : RH g ρc Hc h) (e : Ext ρ n H ρc h.n Hc) (p : Post g W ρ n H σ (fun b _ _ H' => Q b H') (f s h)) : rdT g W f σ Hc Q :=
  ⟨ρc, s, h, rs, r, by
    cases q : f s h with
    | ok v h1 => rw [q] at p; exact fun ρ1 H1 e1 r1 => p ρ1 H1 (e.trans e1) r1
    | ex c h1 => rw [q] at p; exact fun ρ1 H1 e1 r1 => p ρ1 H1 (e.trans e1) r1
    | no => rw [q] at p; exact p⟩
end

/-! ### names, constants -/
section
variable {X : Cx} {g : Gl} {W : WX} {pos : Pos}
def fVar (i : Nat) : FE := fun s h => match s[i]? with
  | some (some a) => .ok a h
  | _ => .no
theorem ee_var {i : Nat} {x : Str} (hN : X.N[i]? = some x) (hv : Vis X.env.scope x) (hd : (x == ("__debug__" : Str)) = false) (hcd : (x == ("__classdict__" : Str)) = false) : PE X (.Name x pos) (rdE g W (fVar i)) :=
  (pe_var hN hv hd hcd).imp fun σ H Q ⟨ρ, s, h, rs, r, p⟩ => by
    unfold fVar at p
    split at p
    · rename_i a e
      obtain ⟨v, h1, h2⟩ := rs.get e
      exact ⟨v, h1, p.now .refl r v h2⟩
    · exact p.elim
def fCon (a : A) : FE := fun _ h => .ok a h
theorem ee_con {e : Expr} {v : V} {a : A} (he : PE X e (tC v)) (ha : ∀ ρ n H, RV g ρ n H a v) : PE X e (rdE g W (fCon a)) :=
  he.imp fun σ H Q ⟨ρ, s, h, rs, r, p⟩ => p.now .refl r v (ha _ _ _)
theorem ee_int {i j} : PE X (.Constant (.int i) j pos) (rdE g W (fCon (.int i))) := ee_con pe_int fun _ _ _ => by unfold RV; rfl
theorem ee_bl {i j} : PE X (.Constant (.bool i) j pos) (rdE g W (fCon (.bl i))) := ee_con pe_bl fun _ _ _ => by unfold RV; rfl
theorem ee_str {i j} : PE X (.Constant (.str i) j pos) (rdE g W (fCon (.str i))) := ee_con pe_str fun _ _ _ => by unfold RV; rfl
theorem ee_non {j} : PE X (.Constant .none j pos) (rdE g W (fCon .non)) := ee_con pe_non fun _ _ _ => by unfold RV; rfl

/-! ### argument lists, tuples, lists -/
def fNil : FA := fun _ h => .ok [] h
def fCons (f : FE) (fs : FA) : FA := fun s h => (f s h).bind fun x h1 => (fs s h1).bind fun xs h2 => .ok (x :: xs) h2
theorem ea_nil : PA X [] (rdA g W fNil) := pa_nil.imp fun σ H Q ⟨ρ, s, h, rs, r, p⟩ => p.now .refl r [] .nil
theorem ea_cons {e : Expr} {es : List Expr} {f : FE} {fs : FA} (he : PE X e (rdE g W f)) (hs : PA X es (rdA g W fs)) (hst : starEach (e :: es) X.env = (false, eval e X.env) :: starEach es X.env) : PA X (e :: es) (rdA g W (fCons f fs)) :=
  (pa_cons he hs hst).imp fun σ H Q ⟨ρ, s, h, rs, r, p⟩ => rdE.seq (σ' := σ) rs r .refl p fun v x ρ1 h1 H1 e1 r1 rx p1 =>
    rdA.seq (rs.mono e1) r1 e1 p1 fun vs xs ρ2 h2 H2 e2 r2 rxs p2 => p2.now (e1.trans e2) r2 _ (.cons (rx.mono e2) rxs)
def lenOk (xs : List A) : Bool := Nat.ble xs.length 16777216
theorem lenOk.le {xs : List A} (h : lenOk xs = true) : xs.length ≤ sizeLine := by
  rw [sizeLine_eq]
  exact Nat.le_of_ble_eq_true h
def fTup (fs : FA) : FE := fun s h => (fs s h).bind fun xs h1 => match lenOk xs with | true => .ok (.tup xs) h1 | false => .no
theorem ee_tup {es : List Expr} {k : Nat} {fs : FA} (hs : PA X es (rdA g W fs)) : PE X (.Tuple es k pos) (rdE g W (fTup fs)) :=
  (pe_tup hs).imp fun σ H Q ⟨ρ, s, h, rs, r, p⟩ => rdA.seq rs r .refl p fun vs xs ρ1 h1 H1 e1 r1 rx p1 => by
    split at p1
    · rename_i hl
      exact ⟨by rw [← rx.length]; exact lenOk.le hl, p1.tup e1 r1 rx⟩
    · exact p1.elim
def fLst (fs : FA) : FE := fun s h => (fs s h).bind fun xs h1 => match lenOk xs with | true => .ok (.ref h1.n) (h1.push (.lst xs)) | false => .no
theorem ee_lst {es : List Expr} {fs : FA} (hs : PA X es (rdA g W fs)) : PE X (.List es pos) (rdE g W (fLst fs)) :=
  (pe_lst hs).imp fun σ H Q ⟨ρ, s, h, rs, r, p⟩ => rdA.seq rs r .refl p fun vs xs ρ1 h1 H1 e1 r1 rx p1 => by
    split at p1
    · rename_i hl
      exact ⟨by rw [← rx.length]; exact lenOk.le hl, p1.lst e1 r1 rx⟩
    · exact p1.elim

/-! ### operators -/
abbrev G2 := A → A → Ah → Rs A
def BinOk (g : Gl) (r : R2) (gop : G2) : Prop := ∀ ⦃W : WX⦄ ⦃ρ ρc : Nat → Addr⦄ ⦃n : Nat⦄ ⦃H Hc : Hp⦄ ⦃h : Ah⦄ ⦃σ : St⦄ ⦃Q : VK⦄ ⦃v w : A⦄ ⦃x y : V⦄,
  Ext ρ n H ρc h.n Hc → RH g ρc Hc h → RV g ρc h.n Hc v x → RV g ρc h.n Hc w y → Post g W ρ n H σ (VQ g Q) (gop v w h) → r x y Hc Q
def f2 (gop : G2) (fa fb : FE) : FE := fun s h => (fa s h).bind fun x h1 => (fb s h1).bind fun y h2 => gop x y h2
theorem rd2 {r : R2} {gop : G2} {fa fb : FE} (ok : BinOk g r gop) {σ : St} {H : Hp} {Q : VK} (q : rdE g W (f2 gop fa fb) σ H Q) : tOp r (rdE g W fa) (rdE g W fb) σ H Q := by
  obtain ⟨ρ, s, h, rs, rh, p⟩ := q
  exact rdE.seq (σ' := σ) rs rh .refl p fun v x ρ1 h1 H1 e1 r1 rx p1 => rdE.seq (σ' := σ) (rs.mono e1) r1 e1 p1 fun w y ρ2 h2 H2 e2 r2 ry p2 => ok (e1.trans e2) r2 (rx.mono e2) ry p2
theorem ee_op {op : Operator} {r : R2} {gop : G2} {a b : Expr} {fa fb : FE} (ho : OpR X (binaryOp op) r) (ok : BinOk g r gop) (ha : PE X a (rdE g W fa)) (hb : PE X b (rdE g W fb)) : PE X (.BinOp a op b pos) (rdE g W (f2 gop fa fb)) :=
  (pe_op ho ha hb).imp fun _ _ _ => rd2 ok

/-- comparisons: the answer is a bool -/
abbrev C2 := A → A → Ah → Rs Bool
def CmpOk (g : Gl) (r : R2) (cop : C2) : Prop := ∀ ⦃W : WX⦄ ⦃ρ ρc : Nat → Addr⦄ ⦃n : Nat⦄ ⦃H Hc : Hp⦄ ⦃h : Ah⦄ ⦃σ : St⦄ ⦃Q : VK⦄ ⦃v w : A⦄ ⦃x y : V⦄,
  Ext ρ n H ρc h.n Hc → RH g ρc Hc h → RV g ρc h.n Hc v x → RV g ρc h.n Hc w y → Post g W ρ n H σ (fun b _ _ H' => Q (.bl b) H') (cop v w h) → r x y Hc Q
def t2 (cop : C2) (fa fb : FE) : FT := fun s h => (fa s h).bind fun x h1 => (fb s h1).bind fun y h2 => cop x y h2
def eOfT (f : FT) : FE := fun s h => (f s h).bind fun b h1 => .ok (.bl b) h1
theorem rdE_of_T {f : FT} {σ : St} {H : Hp} {Q : VK} (q : rdE g W (eOfT f) σ H Q) : rdT g W f σ H (fun b H' => Q (.bl b) H') := by
  obtain ⟨ρ, s, h, rs, rh, p⟩ := q
  exact rdT.seq rs rh .refl p fun b ρ1 h1 H1 e1 r1 p1 => p1.now e1 r1 _ (by unfold RV; rfl)
theorem rc2 {r : R2} {cop : C2} {fa fb : FE} (ok : CmpOk g r cop) {σ : St} {H : Hp} {Q : VK} (q : rdT g W (t2 cop fa fb) σ H (fun b H' => Q (.bl b) H')) : tOp r (rdE g W fa) (rdE g W fb) σ H Q := by
  obtain ⟨ρ, s, h, rs, rh, p⟩ := q
  exact rdE.seq (σ' := σ) rs rh .refl p fun v x ρ1 h1 H1 e1 r1 rx p1 => rdE.seq (σ' := σ) (rs.mono e1) r1 e1 p1 fun w y ρ2 h2 H2 e2 r2 ry p2 => ok (e1.trans e2) r2 (rx.mono e2) ry p2
theorem ee_cmp {op : CmpOp} {r : R2} {cop : C2} {a b : Expr} {fa fb : FE} (ho : OpR X (compareOp op) r) (ok : CmpOk g r cop) (ha : PE X a (rdE g W fa)) (hb : PE X b (rdE g W fb)) (hm : behindInMarks op b = false) :
    PE X (.Compare a [op] [b] pos) (rdE g W (eOfT (t2 cop fa fb))) := (pe_cmpR ho ha hb hm).imp fun _ _ _ q => rc2 ok (rdE_of_T q)
theorem et_cmp {op : CmpOp} {r : R2} {cop : C2} {a b : Expr} {fa fb : FE} (ho : OpR X (compareOp op) r) (ok : CmpOk g r cop) (ha : PE X a (rdE g W fa)) (hb : PE X b (rdE g W fb)) (hm : behindInMarks op b = false) :
    PT X (.Compare a [op] [b] pos) (rdT g W (t2 cop fa fb)) := (pt_cmpR ho ha hb hm).imp fun σ H Q q => by
  have q : rdT g W (t2 cop fa fb) σ H (fun b H' => (fun x H' => ∃ k, x = V.bl k ∧ Q k H') (.bl b) H') := by
    obtain ⟨ρ, s, h, rs, rh, p⟩ := q
    refine ⟨ρ, s, h, rs, rh, ?_⟩
    cases e : t2 cop fa fb s h with
    | ok v h1 => rw [e] at p; exact fun ρ1 H1 e1 r1 => ⟨_, rfl, p ρ1 H1 e1 r1⟩
    | ex c h1 => rw [e] at p; exact p
    | no => rw [e] at p; exact p
  exact rc2 ok q
def tch (c1 c2 : C2) (fa fb fc : FE) : FT := fun s h => (fa s h).bind fun x h1 => (fb s h1).bind fun y h2 => (c1 x y h2).bind fun b h3 => match b with
  | true => (fc s h3).bind fun z h4 => c2 y z h4
  | false => .ok false h3
theorem rch {r r' : R2} {c1 c2 : C2} {fa fb fc : FE} (o1 : CmpOk g r c1) (o2 : CmpOk g r' c2) {σ : St} {H : Hp} {Q : VK} (q : rdT g W (tch c1 c2 fa fb fc) σ H (fun b H' => Q (.bl b) H')) : tChain r r' (rdE g W fa) (rdE g W fb) (rdE g W fc) σ H Q := by
  obtain ⟨ρ, s, h, rs, rh, p⟩ := q
  refine rdE.seq (σ' := σ) rs rh .refl p fun v x ρ1 h1 H1 e1 r1 rx p1 => rdE.seq (σ' := σ) (rs.mono e1) r1 e1 p1 fun w y ρ2 h2 H2 e2 r2 ry p2 => ?_
  refine o1 (W := W) (σ := σ) (.refl (ρ := ρ2) (n := h2.n) (H := H2)) r2 (rx.mono e2) ry (Post.seq (e1.trans e2) p2 fun b ρ3 h3 H3 _ e3 r3 p3 => ⟨b, rfl, ?_⟩)
  cases b with
  | false => rw [if_neg (by decide)]; exact p3.now ((e1.trans e2).trans e3) r3
  | true =>
    rw [if_pos rfl]
    exact rdE.seq (σ' := σ) (((rs.mono e1).mono e2).mono e3) r3 ((e1.trans e2).trans e3) p3 fun z x4 ρ4 h4 H4 e4 r4 r4x p4 => o2 (((e1.trans e2).trans e3).trans e4) r4 ((ry.mono e3).mono e4) r4x p4
theorem ee_chain {op op' : CmpOp} {r r' : R2} {c1 c2 : C2} {a b c : Expr} {fa fb fc : FE} (ho : OpR X (compareOp op) r) (ho' : OpR X (compareOp op') r') (o1 : CmpOk g r c1) (o2 : CmpOk g r' c2) (ha : PE X a (rdE g W fa)) (hb : PE X b (rdE g W fb)) (hc : PE X c (rdE g W fc))
    (hm : behindInMarks op' c = false) : PE X (.Compare a [op, op'] [b, c] pos) (rdE g W (eOfT (tch c1 c2 fa fb fc))) := (pe_chain ho ho' ha hb hc (by show behindInMarks op' c = false; exact hm)).imp fun _ _ _ q => rch o1 o2 (rdE_of_T q)
end
end Ev

namespace Ev
open PySem PySem.Spec L2
open PyProof.Rows hiding St

section
variable {g : Gl} {ρ : Nat → Addr} {n : Nat} {H : Hp}
theorem RV.int' {i : Int} {v : V} (h : RV g ρ n H (.int i) v) : v = .int i := by unfold RV at h; exact h
theorem RV.bl' {i : Bool} {v : V} (h : RV g ρ n H (.bl i) v) : v = .bl i := by unfold RV at h; exact h
theorem RV.str' {i : Str} {v : V} (h : RV g ρ n H (.str i) v) : v = .str i := by unfold RV at h; exact h
theorem RV.non' {v : V} (h : RV g ρ n H .non v) : v = .non := by unfold RV at h; exact h
theorem RV.ty' {t : Tn} {v : V} (h : RV g ρ n H (.ty t) v) : v = .ty t.name := by unfold RV at h; exact h
theorem RV.ref' {k : Nat} {v : V} (h : RV g ρ n H (.ref k) v) : k < n ∧ v = .ref (ρ k) := by unfold RV at h; exact h
theorem RV.tup' {xs : List A} {v : V} (h : RV g ρ n H (.tup xs) v) : ∃ p ys, v = .ref p ∧ H p = some (.tup ys) ∧ RVs g ρ n H xs ys := by unfold RV at h; exact h
theorem rv_int {i : Int} : RV g ρ n H (.int i) (.int i) := by unfold RV; rfl
theorem rv_bl {i : Bool} : RV g ρ n H (.bl i) (.bl i) := by unfold RV; rfl
theorem rv_str {i : Str} : RV g ρ n H (.str i) (.str i) := by unfold RV; rfl
theorem rv_non : RV g ρ n H .non .non := by unfold RV; rfl
theorem rv_ty {t : Tn} : RV g ρ n H (.ty t) (.ty t.name) := by unfold RV; rfl
theorem rv_tup {xs : List A} {p : Addr} {ys : List V} (h : H p = some (.tup ys)) (r : RVs g ρ n H xs ys) : RV g ρ n H (.tup xs) (.ref p) := by unfold RV; exact ⟨p, ys, rfl, h, r⟩
end

/-! ### arithmetic -/
def strLine (a b : Str) : Bool := Nat.ble (a.length + b.length) 16777216
def rAddA (K : PySem.W.Frag) : R2 := fun x y H Q => (rI0 fun i j => V.int (i + j)) x y H Q ∨ (rCatA K x y H Q ∨ (rCat x y H Q ∨ (∃ i j, x = .str i ∧ y = .str j ∧ i.length + j.length ≤ sizeLine ∧ Q (.str (i ++ j)) H)))
theorem or_add {X : Cx} : OpR X (binaryOp .Add) (rAddA X.K) := op_add.or (op_catA.or (op_cat.or op_add_str))
def gAdd : G2 := fun v w h => match v, w with
  | .int i, .int j => .ok (.int (i + j)) h
  | .tup xs, .tup ys => match lenOk (xs ++ ys) with
    | true => .ok (.tup (xs ++ ys)) h
    | false => .no
  | .ref i, .ref j => match h.get i, h.get j with
    | some (.lst xs), some (.lst ys) => (match lenOk (xs ++ ys) with
      | true => .ok (.ref h.n) (h.push (.lst (xs ++ ys)))
      | false => .no)
    | _, _ => .no
  | .str x, .str y => match strLine x y with
    | true => .ok (.str (x ++ y)) h
    | false => .no
  | _, _ => .no
theorem bo_add {g : Gl} {K : PySem.W.Frag} : BinOk g (rAddA K) gAdd := by
  intro W ρ ρc n H Hc h σ Q v w x y e r rx ry p
  unfold gAdd at p
  split at p
  · cases rx.int'; cases ry.int'
    exact .inl ⟨_, _, rfl, rfl, p.now e r _ rv_int⟩
  · rename_i xs ys
    split at p
    · rename_i hl
      have hl := lenOk.le hl
      obtain ⟨a, xs', rfl, ha, rxs⟩ := rx.tup'
      obtain ⟨b, ys', rfl, hb, rys⟩ := ry.tup'
      refine .inr (.inl ⟨a, b, xs', ys', rfl, rfl, .of ha, .of hb, by rw [← rxs.length, ← rys.length, ← List.length_append]; exact hl, fun z => ?_, fun _ z => ?_, fun _ _ => p.tup e r (rxs.append rys)⟩)
      · subst z
        have : xs = [] := List.length_eq_zero_iff.mp (by rw [rxs.length]; rfl)
        subst this
        exact p.now e r _ (rv_tup hb rys)
      · subst z
        have : ys = [] := List.length_eq_zero_iff.mp (by rw [rys.length]; rfl)
        subst this
        refine p.now e r _ (rv_tup ha ?_)
        rw [List.append_nil]; exact rxs
    · exact p.elim
  · rename_i i j
    split at p
    · rename_i xs ys h1 h2
      split at p
      · rename_i hl
        have hl := lenOk.le hl
        obtain ⟨ki, rfl⟩ := rx.ref'
        obtain ⟨kj, rfl⟩ := ry.ref'
        obtain ⟨xs', hx, rxs⟩ := r.lst h1
        obtain ⟨ys', hy, rys⟩ := r.lst h2
        exact .inr (.inr (.inl ⟨_, _, xs', ys', rfl, rfl, hx, hy, by rw [← rxs.length, ← rys.length, ← List.length_append]; exact hl, p.lst e r (rxs.append rys)⟩))
      · exact p.elim
    · exact p.elim
  · split at p
    · rename_i hl
      cases rx.str'; cases ry.str'
      refine .inr (.inr (.inr ⟨_, _, rfl, rfl, ?_, p.now e r _ rv_str⟩))
      rw [sizeLine_eq]; exact Nat.le_of_ble_eq_true hl
    · exact p.elim
  · exact p.elim
def gSub : G2 := fun v w h => match v, w with
  | .int i, .int j => .ok (.int (i - j)) h
  | _, _ => .no
theorem bo_sub {g : Gl} : BinOk g (rI0 fun i j => V.int (i - j)) gSub := by
  intro W ρ ρc n H Hc h σ Q v w x y e r rx ry p
  unfold gSub at p
  split at p
  · cases rx.int'; cases ry.int'
    exact ⟨_, _, rfl, rfl, p.now e r _ rv_int⟩
  · exact p.elim
def mulOk (i j : Int) : Bool := Nat.blt (i.natAbs.log2 + j.natAbs.log2) 1000000
def repL (k : Nat) (xs : List A) : List A := match k with
  | 0 => []
  | k + 1 => xs ++ repL k xs
theorem repL_eq (xs : List A) : ∀ k, repL k xs = (List.replicate k xs).flatten
  | 0 => rfl
  | k + 1 => by rw [repL, repL_eq xs k, List.replicate_succ, List.flatten_cons]
theorem RVs.rep {g : Gl} {ρ : Nat → Addr} {n : Nat} {H : Hp} {xs : List A} {ys : List V} (h : RVs g ρ n H xs ys) : ∀ k, RVs g ρ n H (repL k xs) (List.replicate k ys).flatten
  | 0 => .nil
  | k + 1 => by rw [repL, List.replicate_succ, List.flatten_cons]; exact h.append (RVs.rep h k)
/-- tuple * int, the short ones: nothing, or once -/
def rMulA (K : PySem.W.Frag) : R2 := fun x y H Q => (rI CMulW fun i j => V.int (i * j)) x y H Q ∨ (rRep x y H Q ∨ rRepT K x y H Q)
theorem or_mul {X : Cx} : OpR X (binaryOp .Mult) (rMulA X.K) := op_mulW.or (op_rep.or op_repT)
def smallI (k : Int) : Bool := decide (-1000000 ≤ k) && decide (k ≤ 1000000)
def gMul : G2 := fun v w h => match v, w with
  | .int i, .int j => match mulOk i j with
    | true => .ok (.int (i * j)) h
    | false => .no
  | .ref i, .int k => match h.get i with
    | some (.lst xs) => (match smallI k && lenOk (repL k.toNat xs) with
      | true => .ok (.ref h.n) (h.push (.lst (repL k.toNat xs)))
      | false => .no)
    | _ => .no
  | .tup xs, .int k => match decide (2 ≤ k) && (decide (k ≤ 1000) && (Nat.ble xs.length 1000 && !xs.isEmpty)) with
    | true => .ok (.tup (repL k.toNat xs)) h
    | false => .no
  | _, _ => .no
theorem bo_mul {g : Gl} {K : PySem.W.Frag} : BinOk g (rMulA K) gMul := by
  intro W ρ ρc n H Hc h σ Q v w x y e r rx ry p
  unfold gMul at p
  split at p
  · split at p
    · rename_i i j hl
      cases rx.int'; cases ry.int'
      refine .inl ⟨_, _, rfl, rfl, ?_, p.now e r _ rv_int⟩
      unfold mulOk at hl
      exact Nat.blt_eq.mp hl
    · exact p.elim
  · rename_i i k
    split at p
    · rename_i xs h1
      split at p
      · rename_i hl
        simp only [smallI, Bool.and_eq_true, decide_eq_true_eq] at hl
        obtain ⟨ki, rfl⟩ := rx.ref'
        cases ry.int'
        obtain ⟨xs', hx, rxs⟩ := r.lst h1
        have hl2 := lenOk.le hl.2
        rw [repL_eq] at hl2
        have e1 : (List.replicate k.toNat xs).flatten.length = k.toNat * xs.length := by simp [List.length_flatten]
        rw [e1] at hl2
        refine .inr (.inl ⟨_, _, xs', rfl, rfl, hx, by omega, by omega, by rw [← rxs.length, Nat.mul_comm]; exact hl2, p.lst e r (rxs.rep _)⟩)
      · exact p.elim
    · exact p.elim
  · rename_i xs k
    split at p
    · rename_i hl
      simp only [Bool.and_eq_true, decide_eq_true_eq] at hl
      obtain ⟨a, xs', rfl, ha, rxs⟩ := rx.tup'
      cases ry.int'
      have h3 := Nat.le_of_ble_eq_true hl.2.2.1
      refine .inr (.inr ⟨a, k, xs', rfl, rfl, .of ha, fun z => ?_, hl.1, hl.2.1, by rw [← rxs.length]; exact h3, p.tup e r (rxs.rep _)⟩)
      subst z
      have : xs = [] := List.length_eq_zero_iff.mp (by rw [rxs.length]; rfl)
      subst this
      simp at hl
    · exact p.elim
  · exact p.elim
def idiv (i j : Int) : Option Int := match decide (0 < j) with
  | true => (match Nat.blt j.natAbs.log2 9000 with
    | true => some (i / j)
    | false => none)
  | false => match !decide (j = 0) && Nat.blt j.natAbs 1073741824 with
    | true => some (i.fdiv j)
    | false => none
def gDiv : G2 := fun v w h => match v, w with
  | .int i, .int j => match idiv i j with
    | some k => .ok (.int k) h
    | none => .no
  | _, _ => .no
def rDivA : R2 := fun x y H Q => (rI CDivW fun i j => V.int (i / j)) x y H Q ∨ (rI CDivN fun i j => V.int (i.fdiv j)) x y H Q
theorem or_div {X : Cx} : OpR X (binaryOp .FloorDiv) rDivA := op_fdivW.or op_fdivN
theorem bo_div {g : Gl} : BinOk g rDivA gDiv := by
  intro W ρ ρc n H Hc h σ Q v w x y e r rx ry p
  unfold gDiv at p
  split at p
  · split at p
    · rename_i i j k hk
      cases rx.int'; cases ry.int'
      unfold idiv at hk
      split at hk
      · rename_i h0
        split at hk
        · rename_i h1
          cases hk
          exact .inl ⟨_, _, rfl, rfl, ⟨of_decide_eq_true h0, Nat.blt_eq.mp h1⟩, p.now e r _ rv_int⟩
        · cases hk
      · split at hk
        · rename_i h1
          cases hk
          simp only [Bool.and_eq_true, Bool.not_eq_true', decide_eq_false_iff_not] at h1
          exact .inr ⟨_, _, rfl, rfl, ⟨h1.1, Nat.blt_eq.mp h1.2⟩, p.now e r _ rv_int⟩
        · cases hk
    · exact p.elim
  · exact p.elim
def gMod : G2 := fun v w h => match v, w with
  | .int i, .int j => match decide (0 < j) with
    | true => .ok (.int (i % j)) h
    | false => .no
  | _, _ => .no
theorem bo_mod {g : Gl} : BinOk g (rI (fun _ j => 0 < j) fun i j => V.int (i % j)) gMod := by
  intro W ρ ρc n H Hc h σ Q v w x y e r rx ry p
  unfold gMod at p
  split at p
  · split at p
    · rename_i i j hk
      cases rx.int'; cases ry.int'
      exact ⟨_, _, rfl, rfl, of_decide_eq_true hk, p.now e r _ rv_int⟩
    · exact p.elim
  · exact p.elim
def gPow : G2 := fun v w h => match v, w with
  | .int i, .int j => match decide (0 ≤ j) && (decide (j ≤ 1000) && Nat.blt i.natAbs 18446744073709551616) with
    | true => .ok (.int (i ^ j.toNat)) h
    | false => .no
  | _, _ => .no
theorem bo_pow {g : Gl} : BinOk g (rI CPow fun i j => V.int (i ^ j.toNat)) gPow := by
  intro W ρ ρc n H Hc h σ Q v w x y e r rx ry p
  unfold gPow at p
  split at p
  · split at p
    · rename_i i j hk
      cases rx.int'; cases ry.int'
      simp only [Bool.and_eq_true, decide_eq_true_eq] at hk
      refine ⟨_, _, rfl, rfl, ⟨hk.1, by omega, ?_⟩, p.now e r _ rv_int⟩
      have := Nat.blt_eq.mp hk.2.2
      omega
    · exact p.elim
  · exact p.elim

/-! ### order of ints -/
def cInt (f : Int → Int → Bool) : C2 := fun v w h => match v, w with
  | .int i, .int j => .ok (f i j) h
  | _, _ => .no
theorem co_int {g : Gl} {f : Int → Int → Bool} : CmpOk g (rI0 fun i j => V.bl (f i j)) (cInt f) := by
  intro W ρ ρc n H Hc h σ Q v w x y e r rx ry p
  unfold cInt at p
  split at p
  · cases rx.int'; cases ry.int'
    exact ⟨_, _, rfl, rfl, p.now e r⟩
  · exact p.elim

/-! ### equality at any depth -/
def mapD {α β : Type} (f : α → Option β) : List α → Option (List β)
  | [] => some []
  | x :: xs => match f x, mapD f xs with
    | some y, some ys => some (y :: ys)
    | _, _ => none
def toD (h : Ah) : Nat → A → Option PyData
  | 0, _ => none
  | n + 1, a => match a with
    | .non => some .none
    | .bl b => some (.bool b)
    | .int i => some (.int i)
    | .str x => some (.str x)
    | .tup xs => (match mapD (toD h n) xs with
      | some ds => some (.tuple ds)
      | none => none)
    | .ref k => (match h.get k with
      | some (.lst xs) => (match mapD (toD h n) xs with
        | some ds => some (.list ds)
        | none => none)
      | _ => none)
    | _ => none
section
variable {g : Gl} {ρ : Nat → Addr} {H : Hp} {h : Ah} {K : PySem.W.Frag}
theorem mapD_all {f : A → Option PyData} {n : Nat} (hf : ∀ a v d, f a = some d → RV g ρ n H a v → Dp K H v d) : ∀ {xs : List A} {ys : List V} {ds : List PyData}, mapD f xs = some ds → RVs g ρ n H xs ys → DpAll K H ys ds
  | [], _, _, e, r => by cases e; rw [r.unnil]; exact .nil
  | x :: xs, _, _, e, r => by
    obtain ⟨y, ys, rfl, r1, r2⟩ := r.uncons
    unfold mapD at e
    split at e
    · rename_i d ds h1 h2
      cases e
      exact .cons (hf _ _ _ h1 r1) (mapD_all hf h2 r2)
    · cases e
theorem toD_ok (r : RH g ρ H h) : ∀ (n : Nat) (a : A) (v : V) (d : PyData), toD h n a = some d → RV g ρ h.n H a v → Dp K H v d
  | 0, _, _, _, e, _ => by cases e
  | n + 1, a, v, d, e, rv => by
    unfold toD at e
    split at e
    · cases e; cases rv.non'; exact .non
    · cases e; cases rv.bl'; exact .bl _
    · cases e; cases rv.int'; exact .int _
    · cases e; cases rv.str'; exact .str _
    · split at e
      · rename_i ds hds
        cases e
        obtain ⟨p, ys, rfl, hp, rys⟩ := rv.tup'
        exact .tup (.of hp) (mapD_all (fun a v d e rv => toD_ok r n a v d e rv) hds rys)
      · cases e
    · split at e
      · rename_i xs hk
        split at e
        · rename_i ds hds
          cases e
          obtain ⟨_, rfl⟩ := rv.ref'
          obtain ⟨ys, hy, rys⟩ := r.lst hk
          exact .lst (.of hy) (mapD_all (fun a v d e rv => toD_ok r n a v d e rv) hds rys)
        · cases e
      · cases e
    · cases e
end
def cEq (neg : Bool) : C2 := fun v w h => match v, w with
  | .int i, .int j => .ok (Bool.xor neg (i == j)) h
  | v, w => match toD h 60 v, toD h 60 w with
    | some d, some e => (match SeqAt.shaped d && SeqAt.shaped e with
      | true => .ok (Bool.xor neg (PyData.eqv d e)) h
      | false => .no)
    | _, _ => .no
theorem co_eq {g : Gl} {K : PySem.W.Frag} : CmpOk g (rEqD K) (cEq false) := by
  intro W ρ ρc n H Hc h σ Q v w x y e r rx ry p
  unfold cEq at p
  split at p
  · rename_i i j
    cases rx.int'; cases ry.int'
    refine ⟨.int i, .int j, .int i, .int j, by with_unfolding_all rfl, by with_unfolding_all rfl, ?_⟩
    have := p.now e r
    rw [Bool.false_xor] at this
    simpa [PyData.eqv] using this
  · split at p
    · rename_i d d' h1 h2
      split at p
      · rename_i hs
        rw [Bool.and_eq_true] at hs
        have := p.now e r
        rw [Bool.false_xor] at this
        exact ⟨d, d', toD_ok r _ _ _ _ h1 rx, toD_ok r _ _ _ _ h2 ry, hs.1, hs.2, this⟩
      · exact p.elim
    · exact p.elim
theorem co_ne {g : Gl} {K : PySem.W.Frag} : CmpOk g (rNeD K) (cEq true) := by
  intro W ρ ρc n H Hc h σ Q v w x y e r rx ry p
  unfold cEq at p
  split at p
  · rename_i i j
    cases rx.int'; cases ry.int'
    refine ⟨.int i, .int j, .int i, .int j, by with_unfolding_all rfl, by with_unfolding_all rfl, ?_⟩
    have := p.now e r
    rw [Bool.true_xor] at this
    simpa [PyData.eqv] using this
  · split at p
    · rename_i d d' h1 h2
      split at p
      · rename_i hs
        rw [Bool.and_eq_true] at hs
        have := p.now e r
        rw [Bool.true_xor] at this
        exact ⟨d, d', toD_ok r _ _ _ _ h1 rx, toD_ok r _ _ _ _ h2 ry, hs.1, hs.2, this⟩
      · exact p.elim
    · exact p.elim

/-! ### is, is not: None and bools -/
def rIsA : R2 := fun x y H Q => (y = .non ∧ Q (.bl (decide (x = .non))) H) ∨ rIsB x y H Q
def rNotA : R2 := fun x y H Q => (y = .non ∧ Q (.bl (!decide (x = .non))) H) ∨ rNotB x y H Q
theorem or_is {X : Cx} : OpR X (compareOp .Is) rIsA := op_isN.or op_isBl
theorem or_isnot {X : Cx} : OpR X (compareOp .IsNot) rNotA := op_notN.or op_notBl
def cIs (neg : Bool) : C2 := fun v w h => match w with
  | .non => (match v with
    | .non => .ok (Bool.xor neg true) h
    | .opq => .no
    | .bl _ | .int _ | .str _ | .tup _ | .ref _ | .ty _ | .fn _ | .exc _ => .ok (Bool.xor neg false) h)
  | .bl b => (match v with
    | .bl a => .ok (Bool.xor neg (decide (a = b))) h
    | _ => .no)
  | _ => .no
theorem rv_non_iff {g : Gl} {ρ : Nat → Addr} {n : Nat} {H : Hp} {v : A} {x : V} (rx : RV g ρ n H v x) (h : v ≠ .opq) (h2 : v ≠ .non) : x ≠ .non := by
  intro z
  subst z
  cases v with
  | non => exact h2 rfl
  | opq => exact h rfl
  | bl b => cases rx.bl'
  | int b => cases rx.int'
  | str b => cases rx.str'
  | ty b => cases rx.ty'
  | ref b => cases rx.ref'.2
  | fn b => unfold RV at rx; cases rx
  | exc b => unfold RV at rx; cases rx.1
  | tup b => obtain ⟨_, _, q, _⟩ := rx.tup'; cases q
theorem is_non {g : Gl} {neg : Bool} {W : WX} {ρ ρc : Nat → Addr} {n : Nat} {H Hc : Hp} {h : Ah} {σ : St} {Q : Bool → Hp → Prop} {v : A} {x : V} (e : Ext ρ n H ρc h.n Hc) (r : RH g ρc Hc h) (rx : RV g ρc h.n Hc v x)
    (p : Post g W ρ n H σ (fun b _ _ H' => Q b H') (cIs neg v .non h)) : Q (Bool.xor neg (decide (x = .non))) Hc := by
  unfold cIs at p
  split at p
  · split at p
    · cases rx.non'; exact p.now e r
    · exact p.elim
    all_goals
      have hx : x ≠ .non := rv_non_iff rx (by intro z; cases z) (by intro z; cases z)
      rw [decide_eq_false hx]
      exact p.now e r
  · rename_i q; cases q
  · rename_i q _; exact (q rfl).elim
theorem co_is {g : Gl} : CmpOk g rIsA (cIs false) := by
  intro W ρ ρc n H Hc h σ Q v w x y e r rx ry p
  cases w with
  | non =>
    cases ry.non'
    refine .inl ⟨rfl, ?_⟩
    have := is_non (Q := fun b H => Q (.bl b) H) (neg := false) e r rx p
    rw [Bool.false_xor] at this
    exact this
  | bl b =>
    cases ry.bl'
    unfold cIs at p
    simp only at p
    split at p
    · cases rx.bl'
      have := p.now e r
      rw [Bool.false_xor] at this
      exact .inr ⟨_, _, rfl, rfl, this⟩
    · exact p.elim
  | int _ => exact p.elim
  | str _ => exact p.elim
  | tup _ => exact p.elim
  | ref _ => exact p.elim
  | ty _ => exact p.elim
  | fn _ => exact p.elim
  | opq => exact p.elim
  | exc _ => exact p.elim
theorem co_isnot {g : Gl} : CmpOk g rNotA (cIs true) := by
  intro W ρ ρc n H Hc h σ Q v w x y e r rx ry p
  cases w with
  | non =>
    cases ry.non'
    refine .inl ⟨rfl, ?_⟩
    have := is_non (Q := fun b H => Q (.bl b) H) (neg := true) e r rx p
    rw [Bool.true_xor] at this
    exact this
  | bl b =>
    cases ry.bl'
    unfold cIs at p
    simp only at p
    split at p
    · cases rx.bl'
      have := p.now e r
      rw [Bool.true_xor] at this
      exact .inr ⟨_, _, rfl, rfl, this⟩
    · exact p.elim
  | int _ => exact p.elim
  | str _ => exact p.elim
  | tup _ => exact p.elim
  | ref _ => exact p.elim
  | ty _ => exact p.elim
  | fn _ => exact p.elim
  | opq => exact p.elim
  | exc _ => exact p.elim

/-! ### truth -/
def truth (v : A) (h : Ah) : Rs Bool := match v with
  | .non => .ok false h
  | .bl b => .ok b h
  | .int i => .ok (i != 0) h
  | .str x => (match Nat.ble x.length 16777216 with
    | true => .ok ((x.length : Int) != 0) h
    | false => .no)
  | .tup xs => .ok (!xs.isEmpty) h
  | .ref k => (match h.get k with
    | some (.lst xs) => .ok (!xs.isEmpty) h
    | _ => .no)
  | _ => .no
theorem RVs.empty {g : Gl} {ρ : Nat → Addr} {n : Nat} {H : Hp} {xs : List A} {ys : List V} (r : RVs g ρ n H xs ys) : xs.isEmpty = ys.isEmpty := by
  have := r.length
  cases xs <;> cases ys <;> simp_all
theorem truth_ok {g : Gl} {K : PySem.W.Frag} {W : WX} {ρ ρc : Nat → Addr} {n : Nat} {H Hc : Hp} {h : Ah} {σ : St} {β : Type} {Qb : β → (Nat → Addr) → Ah → Hp → Prop} {kk : Bool → Ah → Rs β} {v : A} {x : V} (e : Ext ρ n H ρc h.n Hc) (r : RH g ρc Hc h) (rx : RV g ρc h.n Hc v x)
    (p : Post g W ρ n H σ Qb ((truth v h).bind kk)) : ∃ k, TruV K x Hc k ∧ Post g W ρ n H σ Qb (kk k h) := by
  unfold truth at p
  split at p
  · cases rx.non'; exact ⟨_, rfl, p⟩
  · cases rx.bl'; exact ⟨_, rfl, p⟩
  · cases rx.int'; exact ⟨_, rfl, p⟩
  · split at p
    · rename_i hl
      cases rx.str'
      exact ⟨_, ⟨by rw [sizeLine_eq]; exact Nat.le_of_ble_eq_true hl, rfl⟩, p⟩
    · exact p.elim
  · obtain ⟨q, ys, rfl, hq, rys⟩ := rx.tup'
    exact ⟨_, .inr (.inl ⟨ys, .of hq, by rw [rys.empty]⟩), p⟩
  · split at p
    · rename_i xs hk
      obtain ⟨_, rfl⟩ := rx.ref'
      obtain ⟨ys, hy, rys⟩ := r.lst hk
      exact ⟨_, .inl ⟨ys, .of hy, by rw [rys.empty]⟩, p⟩
    · exact p.elim
  · exact p.elim
section
variable {X : Cx} {g : Gl} {W : WX} {pos : Pos}
def tOfE (f : FE) : FT := fun s h => (f s h).bind truth
theorem rs_bind_ok {α : Type} (r : Rs α) : r.bind (fun v h => .ok v h) = r := by cases r <;> rfl
/-- an expression as a test, by its truth -/
theorem et_truth {e : Expr} {f : FE} (he : PE X e (rdE g W f)) (hp : ∀ whole, isTrue e X.env whole = (do let v ← whole; standAt e.pos; holding [v] (truthy v))) : PT X e (rdT g W (tOfE f)) :=
  (pt_truth he hp).imp fun σ H Q ⟨ρ, s, h, rs, r, p⟩ => rdE.seq (σ' := σ) rs r .refl p fun v x ρ1 h1 H1 e1 r1 rx p1 => by
    have p1 : Post g W ρ h.n H σ (fun b _ _ H' => Q b H') ((truth v h1).bind fun b h => .ok b h) := by rw [rs_bind_ok]; exact p1
    obtain ⟨k, tk, p2⟩ := truth_ok (K := X.K) e1 r1 rx p1
    exact ⟨k, tk, p2.now e1 r1⟩
def tNotA (f : FT) : FT := fun s h => (f s h).bind fun b h1 => .ok (!b) h1
theorem et_not {e : Expr} {f : FT} (he : PT X e (rdT g W f)) : PT X (.UnaryOp .Not e pos) (rdT g W (tNotA f)) :=
  (pt_not he).imp fun σ H Q ⟨ρ, s, h, rs, r, p⟩ => rdT.seq rs r .refl p fun b ρ1 h1 H1 e1 r1 p1 => p1.now e1 r1
theorem ee_not {e : Expr} {f : FE} (he : PE X e (rdE g W f)) : PE X (.UnaryOp .Not e pos) (rdE g W (eOfT (tNotA (tOfE f)))) :=
  (pe_notT he).imp fun σ H Q q => by
    obtain ⟨ρ, s, h, rs, r, p⟩ := rdE_of_T q
    have p : Post g W ρ h.n H σ (fun b _ _ H' => Q (.bl b) H') ((f s h).bind fun v h1 => (truth v h1).bind fun b h2 => .ok (!b) h2) := by
      have e : (f s h).bind (fun v h1 => (truth v h1).bind fun b h2 => Rs.ok (!b) h2) = tNotA (tOfE f) s h := by
        unfold tNotA tOfE
        cases f s h <;> rfl
      rw [e]; exact p
    exact rdE.seq (σ' := σ) rs r .refl p fun v x ρ1 h1 H1 e1 r1 rx p1 => by
      obtain ⟨k, tk, p2⟩ := truth_ok (K := X.K) e1 r1 rx p1
      exact ⟨k, tk, p2.now e1 r1⟩
def fAnd (fa fb : FE) : FE := fun s h => (fa s h).bind fun x h1 => (truth x h1).bind fun b h2 => match b with
  | true => fb s h2
  | false => .ok x h2
def fOr (fa fb : FE) : FE := fun s h => (fa s h).bind fun x h1 => (truth x h1).bind fun b h2 => match b with
  | true => .ok x h2
  | false => fb s h2
theorem ee_one {op} {a : Expr} {f : FE} (he : PE X a (rdE g W f)) : PE X (.BoolOp op [a] pos) (rdE g W f) := pe_one he
theorem ee_and {a b : Expr} {rest : List Expr} {fa fb : FE} (ha : PE X a (rdE g W fa)) (hb : PE X (.BoolOp .And (b :: rest) pos) (rdE g W fb)) : PE X (.BoolOp .And (a :: b :: rest) pos) (rdE g W (fAnd fa fb)) :=
  (pe_andT ha hb).imp fun σ H Q ⟨ρ, s, h, rs, r, p⟩ => rdE.seq (σ' := σ) rs r .refl p fun v x ρ1 h1 H1 e1 r1 rx p1 => by
    obtain ⟨k, tk, p2⟩ := truth_ok (K := X.K) e1 r1 rx p1
    refine ⟨k, tk, ?_⟩
    cases k with
    | true => rw [if_pos rfl]; exact rdE.last (rs.mono e1) r1 e1 p2
    | false => rw [if_neg (by decide)]; exact p2.now e1 r1 _ rx
theorem ee_or {a b : Expr} {rest : List Expr} {fa fb : FE} (ha : PE X a (rdE g W fa)) (hb : PE X (.BoolOp .Or (b :: rest) pos) (rdE g W fb)) : PE X (.BoolOp .Or (a :: b :: rest) pos) (rdE g W (fOr fa fb)) :=
  (pe_orT ha hb).imp fun σ H Q ⟨ρ, s, h, rs, r, p⟩ => rdE.seq (σ' := σ) rs r .refl p fun v x ρ1 h1 H1 e1 r1 rx p1 => by
    obtain ⟨k, tk, p2⟩ := truth_ok (K := X.K) e1 r1 rx p1
    refine ⟨k, tk, ?_⟩
    cases k with
    | true => rw [if_pos rfl]; exact p2.now e1 r1 _ rx
    | false => rw [if_neg (by decide)]; exact rdE.last (rs.mono e1) r1 e1 p2
def tAndA (fa fb : FT) : FT := fun s h => (fa s h).bind fun b h1 => match b with
  | true => fb s h1
  | false => .ok false h1
def tOrA (fa fb : FT) : FT := fun s h => (fa s h).bind fun b h1 => match b with
  | true => .ok true h1
  | false => fb s h1
theorem ew_and1 {a : Expr} {f : FT} (he : PT X a (rdT g W f)) : PW X (.BoolOp .And [a] pos) (rdT g W f) := pw_and1 he
theorem ew_or1 {a : Expr} {f : FT} (he : PT X a (rdT g W f)) : PW X (.BoolOp .Or [a] pos) (rdT g W f) := pw_or1 he
theorem ew_and {a b : Expr} {rest : List Expr} {fa fb : FT} (ha : PT X a (rdT g W fa)) (hb : PW X (.BoolOp .And (b :: rest) pos) (rdT g W fb)) : PW X (.BoolOp .And (a :: b :: rest) pos) (rdT g W (tAndA fa fb)) :=
  (pw_and ha hb).imp fun σ H Q ⟨ρ, s, h, rs, r, p⟩ => rdT.seq rs r .refl p fun b ρ1 h1 H1 e1 r1 p1 => by
    cases b with
    | true => rw [if_pos rfl]; exact rdT.last (rs.mono e1) r1 e1 p1
    | false => rw [if_neg (by decide)]; exact p1.now e1 r1
theorem ew_or {a b : Expr} {rest : List Expr} {fa fb : FT} (ha : PT X a (rdT g W fa)) (hb : PW X (.BoolOp .Or (b :: rest) pos) (rdT g W fb)) : PW X (.BoolOp .Or (a :: b :: rest) pos) (rdT g W (tOrA fa fb)) :=
  (pw_or ha hb).imp fun σ H Q ⟨ρ, s, h, rs, r, p⟩ => rdT.seq rs r .refl p fun b ρ1 h1 H1 e1 r1 p1 => by
    cases b with
    | true => rw [if_pos rfl]; exact p1.now e1 r1
    | false => rw [if_neg (by decide)]; exact rdT.last (rs.mono e1) r1 e1 p1
def fIf (ft : FT) (fa fb : FE) : FE := fun s h => (ft s h).bind fun b h1 => match b with
  | true => fa s h1
  | false => fb s h1
theorem ee_if {c a b : Expr} {ft : FT} {fa fb : FE} (hc : PT X c (rdT g W ft)) (ha : PE X a (rdE g W fa)) (hb : PE X b (rdE g W fb)) : PE X (.IfExp c a b pos) (rdE g W (fIf ft fa fb)) :=
  (pe_ifExp hc ha hb).imp fun σ H Q ⟨ρ, s, h, rs, r, p⟩ => rdT.seq rs r .refl p fun b ρ1 h1 H1 e1 r1 p1 => by
    cases b with
    | true => rw [if_pos rfl]; exact rdE.last (rs.mono e1) r1 e1 p1
    | false => rw [if_neg (by decide)]; exact rdE.last (rs.mono e1) r1 e1 p1
def fNeg (f : FE) : FE := fun s h => (f s h).bind fun v h1 => match v with
  | .int i => .ok (.int (-i)) h1
  | _ => .no
theorem ee_neg {a : Expr} {f : FE} (ha : PE X a (rdE g W f)) : PE X (.UnaryOp .USub a pos) (rdE g W (fNeg f)) :=
  (pe_un un_neg ha).imp fun σ H Q ⟨ρ, s, h, rs, r, p⟩ => rdE.seq (σ' := σ) rs r .refl p fun v x ρ1 h1 H1 e1 r1 rx p1 => by
    split at p1
    · cases rx.int'
      exact ⟨_, rfl, p1.now e1 r1 _ rv_int⟩
    · exact p1.elim
end
end Ev

namespace Ev
open PySem PySem.Spec L2
open PyProof.Rows hiding St

/-! ### subscripts -/
theorem RVs.atA {g : Gl} {ρ : Nat → Addr} {n : Nat} {H : Hp} {xs : List A} {ys : List V} {i : Int} {a : A} (r : RVs g ρ n H xs ys) (e : atI xs i = some a) : ∃ v, atI ys i = some v ∧ RV g ρ n H a v := by
  unfold atI at e ⊢
  rw [r.length] at e
  cases q : ixN ys.length i with
  | none => (rw [q] at e; exact nomatch e)
  | some j =>
    rw [q] at e
    obtain ⟨y, h1, h2⟩ := r.get (i := j) (x := a) e
    exact ⟨y, h1, h2⟩
def gIx : G2 := fun v w h => match v, w with
  | .tup xs, .int i => (match atI xs i with
    | some a => .ok a h
    | none => .no)
  | .ref k, .int i => (match h.get k with
    | some (.lst xs) => (match atI xs i with
      | some a => .ok a h
      | none => .no)
    | _ => .no)
  | _, _ => .no
def rIxA (K : PySem.W.Frag) : R2 := fun x y H Q => rIxL K x y H Q ∨ rIxT K x y H Q
theorem ir_ix {X : Cx} : IxR X (rIxA X.K) := ix_list.or ix_tup
theorem bo_ix {g : Gl} {K : PySem.W.Frag} : BinOk g (rIxA K) gIx := by
  intro W ρ ρc n H Hc h σ Q v w x y e r rx ry p
  unfold gIx at p
  split at p
  · split at p
    · rename_i a ha
      obtain ⟨q, ys, rfl, hq, rys⟩ := rx.tup'
      cases ry.int'
      obtain ⟨z, h1, h2⟩ := rys.atA ha
      exact .inr ⟨q, ys, _, z, rfl, rfl, .of hq, h1, p.now e r _ h2⟩
    · exact p.elim
  · split at p
    · rename_i xs hk
      split at p
      · rename_i a ha
        obtain ⟨_, rfl⟩ := rx.ref'
        cases ry.int'
        obtain ⟨ys, hy, rys⟩ := r.lst hk
        obtain ⟨z, h1, h2⟩ := rys.atA ha
        exact .inl ⟨_, ys, _, z, rfl, rfl, .of hy, h1, p.now e r _ h2⟩
      · exact p.elim
    · exact p.elim
  · exact p.elim
section
variable {X : Cx} {g : Gl} {W : WX} {pos : Pos}
theorem ee_ix {a b : Expr} {fa fb : FE} (ha : PE X a (rdE g W fa)) (hb : PE X b (rdE g W fb)) (hs : PlainIx b) : PE X (.Subscript a b pos) (rdE g W (f2 gIx fa fb)) := (pe_ix ir_ix ha hb hs).imp fun _ _ _ => rd2 bo_ix

/-! ### slices by ones -/
abbrev FO := Sa → Ah → Rs (Option Int)
def rdO (g : Gl) (W : WX) (f : FO) : TO := fun σ H Q => ∃ ρ s h, RS g ρ h.n H s σ ∧ RH g ρ H h ∧ Post g W ρ h.n H σ (fun o _ _ H' => Q o H') (f s h)
theorem _root_.L2.PO.imp {e : Option Expr} {t t' : TO} (h : PO X e t) (f : ∀ σ H Q, t' σ H Q → t σ H Q) : PO X e t' := by
  obtain ⟨r⟩ := h
  exact ⟨fun pins s σ H Q I hw => r pins s σ H Q I (f _ _ _ hw)⟩
def oNone : FO := fun _ h => .ok none h
def oSome (f : FE) : FO := fun s h => (f s h).bind fun v h1 => match v with
  | .int i => .ok (some i) h1
  | _ => .no
theorem eo_none : PO X none (rdO g W oNone) := po_none.imp fun σ H Q ⟨ρ, s, h, rs, r, p⟩ => p.now .refl r
theorem eo_some {e : Expr} {f : FE} (he : PE X e (rdE g W f)) : PO X (some e) (rdO g W (oSome f)) := (po_some he).imp fun σ H Q ⟨ρ, s, h, rs, r, p⟩ => rdE.seq (σ' := σ) rs r .refl p fun v x ρ1 h1 H1 e1 r1 rx p1 => by
  split at p1
  · cases rx.int'; exact ⟨_, rfl, p1.now e1 r1⟩
  · exact p1.elim
theorem rdO.seq {β : Type} {ρ ρc : Nat → Addr} {n : Nat} {H Hc : Hp} {h : Ah} {σ : St} {f : FO} {k : Option Int → Ah → Rs β} {Qb : β → (Nat → Addr) → Ah → Hp → Prop} {Q : Option Int → Hp → Prop} {s : Sa} (rs : RS g ρc h.n Hc s σ) (r : RH g ρc Hc h) (e : Ext ρ n H ρc h.n Hc) (p : Post g W ρ n H σ Qb ((f s h).bind k))
    (q : ∀ b ρ1 h1 H1, Ext ρc h.n Hc ρ1 h1.n H1 → RH g ρ1 H1 h1 → Post g W ρ n H σ Qb (k b h1) → Q b H1) : rdO g W f σ Hc Q :=
  ⟨ρc, s, h, rs, r, Post.seq e p fun v ρ1 h1 H1 _ e1 r1 p1 => q v ρ1 h1 H1 e1 r1 p1⟩
def cutA (xs : List A) (lo hi : Option Int) : List A := (xs.drop (HT.sIx xs.length 0 lo)).take (HT.sIx xs.length xs.length hi - HT.sIx xs.length 0 lo)
theorem RVs.cut {ρ : Nat → Addr} {n : Nat} {H : Hp} {xs : List A} {ys : List V} (r : RVs g ρ n H xs ys) (lo hi : Option Int) : RVs g ρ n H (cutA xs lo hi) (cutV ys lo hi) := by
  unfold cutA cutV
  rw [r.length]
  exact (r.drop _).take _
def fSl (fa : FE) (lo hi : FO) : FE := fun s h => (fa s h).bind fun v h1 => (lo s h1).bind fun l h2 => (hi s h2).bind fun u h3 => match v with
  | .tup xs => .ok (.tup (cutA xs l u)) h3
  | .ref k => (match h3.get k with
    | some (.lst xs) => .ok (.ref h3.n) (h3.push (.lst (cutA xs l u)))
    | _ => .no)
  | _ => .no
theorem ee_sl {e : Expr} {lo hi : Option Expr} {fa : FE} {fl fh : FO} {p2 : Pos} (he : PE X e (rdE g W fa)) (hl : PO X lo (rdO g W fl)) (hh : PO X hi (rdO g W fh)) : PE X (.Subscript e (.Slice lo hi none p2) pos) (rdE g W (fSl fa fl fh)) :=
  (pe_slice (sl_list.or sl_tupA) he hl hh).imp fun σ H Q ⟨ρ, s, h, rs, r, p⟩ => rdE.seq (σ' := σ) rs r .refl p fun v x ρ1 h1 H1 e1 r1 rx p1 =>
    rdO.seq (rs.mono e1) r1 e1 p1 fun l ρ2 h2 H2 e2 r2 p2 => rdO.seq ((rs.mono e1).mono e2) r2 (e1.trans e2) p2 fun u ρ3 h3 H3 e3 r3 p3 => by
      have rx := (rx.mono e2).mono e3
      have e3 := (e1.trans e2).trans e3
      split at p3
      · obtain ⟨q, ys, rfl, hq, rys⟩ := rx.tup'
        refine .inr ⟨q, ys, rfl, .of hq, fun z => ?_, fun _ => p3.tup e3 r3 (rys.cut l u)⟩
        refine p3.now e3 r3 _ (rv_tup hq ?_)
        have := rys.cut l u
        have e0 : cutV ys l u = ys := by
          unfold cutV
          rw [z.1, z.2, List.drop_zero, Nat.sub_zero, List.take_length]
        rw [e0] at this
        exact this
      · split at p3
        · rename_i xs hk
          obtain ⟨_, rfl⟩ := rx.ref'
          obtain ⟨ys, hy, rys⟩ := r3.lst hk
          exact .inl ⟨_, ys, rfl, .of hy, p3.lst e3 r3 (rys.cut l u)⟩
        · exact p3.elim
      · exact p3.elim

/-! ### calls of built-ins -/
abbrev GL := List A → Ah → Rs A
def CallOk (g : Gl) (r : List V → Hp → VK → Prop) (cop : GL) : Prop := ∀ ⦃W : WX⦄ ⦃ρ ρc : Nat → Addr⦄ ⦃n : Nat⦄ ⦃H Hc : Hp⦄ ⦃h : Ah⦄ ⦃σ : St⦄ ⦃Q : VK⦄ ⦃vs : List A⦄ ⦃xs : List V⦄,
  Ext ρ n H ρc h.n Hc → RH g ρc Hc h → RVs g ρc h.n Hc vs xs → Post g W ρ n H σ (VQ g Q) (cop vs h) → r xs Hc Q
def fCall (cop : GL) (fs : FA) : FE := fun s h => (fs s h).bind fun vs h1 => cop vs h1
theorem rdCB {r : List V → Hp → VK → Prop} {cop : GL} {fs : FA} (ok : CallOk g r cop) {σ : St} {H : Hp} {Q : VK} (q : rdE g W (fCall cop fs) σ H Q) : tCB r (rdA g W fs) σ H Q := by
  obtain ⟨ρ, s, h, rs, rh, p⟩ := q
  exact rdA.seq rs rh .refl p fun vs xs ρ1 h1 H1 e1 r1 rx p1 => ok e1 r1 rx p1
/-- what a reader of one list's items makes, given the items; the list is a new one of the call's own -/
def ListOk (g : Gl) (K : PySem.W.Frag) (r : List V → Hp → VK → Prop) (lop : List A → Ah → Rs A) : Prop := ∀ ⦃W : WX⦄ ⦃ρ ρc : Nat → Addr⦄ ⦃n : Nat⦄ ⦃H Hc : Hp⦄ ⦃h : Ah⦄ ⦃σ : St⦄ ⦃Q : VK⦄ ⦃vs : List A⦄ ⦃ys : List V⦄ ⦃p : Addr⦄,
  Ext ρ n H ρc h.n Hc → RH g ρc Hc h → SqL K Hc p ys → RVs g ρc h.n Hc vs ys → Post g W ρ n H σ (VQ g Q) (lop vs h) → r [.ref p] Hc Q
def fCallL (lop : List A → Ah → Rs A) (f : FA) : FE := fun s h => (f s h).bind fun xs h1 => lop xs h1
theorem rdCBL {r : List V → Hp → VK → Prop} {lop : List A → Ah → Rs A} {f : FA} (ok : ListOk g X.K r lop) {σ : St} {H : Hp} {Q : VK} (q : rdE g W (fCallL lop f) σ H Q) : tCB r (tCons (rdL g W f) tNil) σ H Q := by
  obtain ⟨ρ, s, h, rs, rh, p⟩ := q
  exact ⟨ρ, s, h, rs, rh, Post.seq .refl p fun xs ρ1 h1 H1 _ e1 r1 p1 q ys _ hq _ rys => ok e1 r1 (.of hq) rys p1⟩
/-- .. of a list by its number, of any other kind by another rule -/
def byRef (lop : List A → Ah → Rs A) (cop : GL) : GL := fun vs h => match vs with
  | [.ref k] => (match h.get k with
    | some (.lst xs) => lop xs h
    | _ => .no)
  | _ => cop vs h
theorem byRef_ok {K : PySem.W.Frag} {r r' : List V → Hp → VK → Prop} {lop : List A → Ah → Rs A} {cop : GL} (o1 : ListOk g K r lop) (o2 : CallOk g r' cop) : CallOk g (fun xs H Q => r xs H Q ∨ r' xs H Q) (byRef lop cop) := by
  intro W ρ ρc n H Hc h σ Q vs xs e r rx p
  unfold byRef at p
  split at p
  · split at p
    · rename_i ys hk
      obtain ⟨y, rfl, ry⟩ := rx.one
      obtain ⟨_, rfl⟩ := ry.ref'
      obtain ⟨zs, hz, rzs⟩ := r.lst hk
      exact .inl (o1 e r (.of hz) rzs p)
    · exact p.elim
  · exact .inr (o2 e r rx p)
def noC : GL := fun _ _ => .no
theorem noC_ok : CallOk g (fun _ _ _ => False) noC := fun _ _ _ _ _ _ _ _ _ _ _ _ _ _ p => p

/-- len -/
def lLen (xs : List A) (h : Ah) : Rs A := .ok (.int xs.length) h
def cLen : GL := fun vs h => match vs with
  | [.tup xs] => .ok (.int xs.length) h
  | [.str x] => (match Nat.ble x.length 16777216 with
    | true => .ok (.int x.length) h
    | false => .no)
  | _ => .no
def rLenA (K : PySem.W.Frag) : List V → Hp → VK → Prop := fun xs H Q => (∃ p ys, xs = [.ref p] ∧ (SqL K H p ys ∨ SqT K H p ys) ∧ Q (.int ys.length) H) ∨ ((∃ p ys, xs = [.ref p] ∧ (SqL K H p ys ∨ SqT K H p ys) ∧ Q (.int ys.length) H) ∨ (∃ z, xs = [.str z] ∧ z.length ≤ sizeLine ∧ Q (.int z.length) H))
theorem cr_len : CallR X (.builtin "len") (rLenA X.K) := call_len_seq.or (call_len_seq.or call_len_str)
theorem lo_len {K : PySem.W.Frag} : ListOk g K (fun xs H Q => ∃ p ys, xs = [.ref p] ∧ (SqL K H p ys ∨ SqT K H p ys) ∧ Q (.int ys.length) H) lLen := fun _ _ _ _ _ _ _ _ _ _ _ _ e r hq rv p => ⟨_, _, rfl, .inl hq, by rw [← rv.length]; exact p.now e r _ rv_int⟩
theorem co_len0 {K : PySem.W.Frag} : CallOk g (fun xs H Q => (∃ p ys, xs = [.ref p] ∧ (SqL K H p ys ∨ SqT K H p ys) ∧ Q (.int ys.length) H) ∨ (∃ z, xs = [.str z] ∧ z.length ≤ sizeLine ∧ Q (.int z.length) H)) cLen := by
  intro W ρ ρc n H Hc h σ Q vs xs e r rx p
  unfold cLen at p
  split at p
  · obtain ⟨y, rfl, ry⟩ := rx.one
    obtain ⟨q, ys, rfl, hq, rys⟩ := ry.tup'
    exact .inl ⟨_, _, rfl, .inr (.of hq), by rw [← rys.length]; exact p.now e r _ rv_int⟩
  · split at p
    · rename_i hl
      obtain ⟨y, rfl, ry⟩ := rx.one
      cases ry.str'
      exact .inr ⟨_, rfl, by rw [sizeLine_eq]; exact Nat.le_of_ble_eq_true hl, p.now e r _ rv_int⟩
    · exact p.elim
  · exact p.elim
theorem co_len {K : PySem.W.Frag} : CallOk g (rLenA K) (byRef lLen cLen) := byRef_ok lo_len co_len0

/-- tuple -/
def lTup (xs : List A) (h : Ah) : Rs A := .ok (.tup xs) h
def cTup : GL := fun vs h => match vs with
  | [.tup xs] => .ok (.tup xs) h
  | _ => .no
abbrev rTupOf (K : PySem.W.Frag) : List V → Hp → VK → Prop := fun xs H Q => ∃ p ys, xs = [.ref p] ∧ ((SqL K H p ys ∧ ∀ l, H l = none → Q (.ref l) (upd H l (.tup ys))) ∨ (SqT K H p ys ∧ Q (.ref p) H))
def rTupA (K : PySem.W.Frag) : List V → Hp → VK → Prop := fun xs H Q => rTupOf K xs H Q ∨ rTupOf K xs H Q
theorem cr_tup : CallR X (.type "tuple") (rTupA X.K) := call_tuple_of.or call_tuple_of
theorem lo_tup {K : PySem.W.Frag} : ListOk g K (rTupOf K) lTup := fun _ _ _ _ _ _ _ _ _ _ _ _ e r hq rv p => ⟨_, _, rfl, .inl ⟨hq, p.tup e r rv⟩⟩
theorem co_tup0 {K : PySem.W.Frag} : CallOk g (rTupOf K) cTup := by
  intro W ρ ρc n H Hc h σ Q vs xs e r rx p
  unfold cTup at p
  split at p
  · obtain ⟨y, rfl, ry⟩ := rx.one
    obtain ⟨q, ys, rfl, hq, rys⟩ := ry.tup'
    exact ⟨_, _, rfl, .inr ⟨.of hq, p.now e r _ (rv_tup hq rys)⟩⟩
  · exact p.elim
theorem co_tup {K : PySem.W.Frag} : CallOk g (rTupA K) (byRef lTup cTup) := byRef_ok lo_tup co_tup0

/-- list -/
def lList (xs : List A) (h : Ah) : Rs A := .ok (.ref h.n) (h.push (.lst xs))
def cList : GL := fun vs h => match vs with
  | [.tup xs] => .ok (.ref h.n) (h.push (.lst xs))
  | _ => .no
abbrev rListOf (K : PySem.W.Frag) : List V → Hp → VK → Prop := fun xs H Q => ∃ p ys, xs = [.ref p] ∧ (SqL K H p ys ∨ SqT K H p ys) ∧ ∀ l, H l = none → Q (.ref l) (upd H l (.lst ys))
def rListA (K : PySem.W.Frag) : List V → Hp → VK → Prop := fun xs H Q => rListOf K xs H Q ∨ rListOf K xs H Q
theorem cr_list : CallR X (.type "list") (rListA X.K) := call_list_of.or call_list_of
theorem lo_list {K : PySem.W.Frag} : ListOk g K (rListOf K) lList := fun _ _ _ _ _ _ _ _ _ _ _ _ e r hq rv p => ⟨_, _, rfl, .inl hq, p.lst e r rv⟩
theorem co_list0 {K : PySem.W.Frag} : CallOk g (rListOf K) cList := by
  intro W ρ ρc n H Hc h σ Q vs xs e r rx p
  unfold cList at p
  split at p
  · obtain ⟨y, rfl, ry⟩ := rx.one
    obtain ⟨q, ys, rfl, hq, rys⟩ := ry.tup'
    exact ⟨_, _, rfl, .inr (.of hq), p.lst e r rys⟩
  · exact p.elim
theorem co_list {K : PySem.W.Frag} : CallOk g (rListA K) (byRef lList cList) := byRef_ok lo_list co_list0

/-- all, any: lists of bools -/
def boolsOf : List A → Option (List Bool)
  | [] => some []
  | .bl b :: xs => (match boolsOf xs with
    | some bs => some (b :: bs)
    | none => none)
  | _ :: _ => none
theorem boolsOf_ok {ρ : Nat → Addr} {n : Nat} {H : Hp} : ∀ {xs : List A} {ys : List V} {bs : List Bool}, boolsOf xs = some bs → RVs g ρ n H xs ys → ys = bs.map V.bl
  | [], _, _, e, r => by cases e; rw [r.unnil]; rfl
  | x :: xs, _, _, e, r => by
    obtain ⟨y, ys, rfl, r1, r2⟩ := r.uncons
    unfold boolsOf at e
    split at e
    · rename_i q; cases q
    · rename_i b xs' q
      cases q
      split at e
      · rename_i bs hb
        cases e
        rw [r1.bl', boolsOf_ok hb r2]; rfl
      · cases e
    · cases e
def lAll (xs : List A) (h : Ah) : Rs A := match boolsOf xs with
  | some bs => .ok (.bl (bs.all id)) h
  | none => .no
def lAny (xs : List A) (h : Ah) : Rs A := match boolsOf xs with
  | some bs => .ok (.bl (bs.any id)) h
  | none => .no
theorem lo_all {K : PySem.W.Frag} : ListOk g K (rAll K) lAll := by
  intro W ρ ρc n H Hc h σ Q vs ys q e r hq rv p
  unfold lAll at p
  split at p
  · rename_i bs hb
    exact ⟨q, bs, rfl, by rw [← boolsOf_ok hb rv]; exact hq, p.now e r _ rv_bl⟩
  · exact p.elim
theorem lo_any {K : PySem.W.Frag} : ListOk g K (rAny K) lAny := by
  intro W ρ ρc n H Hc h σ Q vs ys q e r hq rv p
  unfold lAny at p
  split at p
  · rename_i bs hb
    exact ⟨q, bs, rfl, by rw [← boolsOf_ok hb rv]; exact hq, p.now e r _ rv_bl⟩
  · exact p.elim
/-- sum: lists of ints -/
def intsOf : List A → Option (List Int)
  | [] => some []
  | .int b :: xs => (match intsOf xs with
    | some bs => some (b :: bs)
    | none => none)
  | _ :: _ => none
theorem intsOf_ok {ρ : Nat → Addr} {n : Nat} {H : Hp} : ∀ {xs : List A} {ys : List V} {bs : List Int}, intsOf xs = some bs → RVs g ρ n H xs ys → ys = bs.map V.int
  | [], _, _, e, r => by cases e; rw [r.unnil]; rfl
  | x :: xs, _, _, e, r => by
    obtain ⟨y, ys, rfl, r1, r2⟩ := r.uncons
    unfold intsOf at e
    split at e
    · rename_i q; cases q
    · rename_i b xs' q
      cases q
      split at e
      · rename_i bs hb
        cases e
        rw [r1.int', intsOf_ok hb r2]; rfl
      · cases e
    · cases e
def lSum (xs : List A) (h : Ah) : Rs A := match intsOf xs with
  | some bs => .ok (.int bs.sum) h
  | none => .no
theorem lo_sum {K : PySem.W.Frag} : ListOk g K (rSum K) lSum := by
  intro W ρ ρc n H Hc h σ Q vs ys q e r hq rv p
  unfold lSum at p
  split at p
  · rename_i bs hb
    exact ⟨q, bs, rfl, by rw [← intsOf_ok hb rv]; exact hq, p.now e r _ rv_int⟩
  · exact p.elim

/-- int, abs, gcd, max, min of two -/
def cInt1 : GL := fun vs h => match vs with
  | [.int i] => .ok (.int i) h
  | [.bl b] => .ok (.int (if b then 1 else 0)) h
  | _ => .no
theorem co_int1 : CallOk g (fun xs H Q => (∃ i, xs = [.int i] ∧ Q (.int i) H) ∨ ∃ k, xs = [.bl k] ∧ Q (.int (if k then 1 else 0)) H) cInt1 := by
  intro W ρ ρc n H Hc h σ Q vs xs e r rx p
  unfold cInt1 at p
  split at p
  · obtain ⟨y, rfl, ry⟩ := rx.one
    cases ry.int'
    exact .inl ⟨_, rfl, p.now e r _ rv_int⟩
  · obtain ⟨y, rfl, ry⟩ := rx.one
    cases ry.bl'
    exact .inr ⟨_, rfl, p.now e r _ rv_int⟩
  · exact p.elim
def cAbs : GL := fun vs h => match vs with
  | [.int i] => .ok (.int (if i < 0 then -i else i)) h
  | _ => .no
theorem co_abs : CallOk g (fun xs H Q => ∃ i, xs = [.int i] ∧ Q (.int (if i < 0 then -i else i)) H) cAbs := by
  intro W ρ ρc n H Hc h σ Q vs xs e r rx p
  unfold cAbs at p
  split at p
  · obtain ⟨y, rfl, ry⟩ := rx.one
    cases ry.int'
    exact ⟨_, rfl, p.now e r _ rv_int⟩
  · exact p.elim
def cGcd : GL := fun vs h => match vs with
  | [.int i, .int j] => .ok (.int ((Nat.gcd i.natAbs j.natAbs : Nat) : Int)) h
  | _ => .no
theorem co_gcd : CallOk g rGcd cGcd := by
  intro W ρ ρc n H Hc h σ Q vs xs e r rx p
  unfold cGcd at p
  split at p
  · obtain ⟨y, y', rfl, ry, ry'⟩ := rx.two
    cases ry.int'; cases ry'.int'
    exact ⟨_, _, rfl, p.now e r _ rv_int⟩
  · exact p.elim
def cMax2 : GL := fun vs h => match vs with
  | [.int i, .int j] => .ok (.int (if j > i then j else i)) h
  | _ => .no
theorem co_max2 : CallOk g (fun xs H Q => ∃ i j, xs = [.int i, .int j] ∧ Q (.int (if j > i then j else i)) H) cMax2 := by
  intro W ρ ρc n H Hc h σ Q vs xs e r rx p
  unfold cMax2 at p
  split at p
  · obtain ⟨y, y', rfl, ry, ry'⟩ := rx.two
    cases ry.int'; cases ry'.int'
    exact ⟨_, _, rfl, p.now e r _ rv_int⟩
  · exact p.elim
def cMin2 : GL := fun vs h => match vs with
  | [.int i, .int j] => .ok (.int (if j < i then j else i)) h
  | _ => .no
theorem co_min2 : CallOk g (fun xs H Q => ∃ i j, xs = [.int i, .int j] ∧ Q (.int (if j < i then j else i)) H) cMin2 := by
  intro W ρ ρc n H Hc h σ Q vs xs e r rx p
  unfold cMin2 at p
  split at p
  · obtain ⟨y, y', rfl, ry, ry'⟩ := rx.two
    cases ry.int'; cases ry'.int'
    exact ⟨_, _, rfl, p.now e r _ rv_int⟩
  · exact p.elim

/-! ### methods of lists -/
abbrev GM := A → List A → Ah → Rs A
def MetOk (g : Gl) (r : V → List V → Hp → VK → Prop) (mop : GM) : Prop := ∀ ⦃W : WX⦄ ⦃ρ ρc : Nat → Addr⦄ ⦃n : Nat⦄ ⦃H Hc : Hp⦄ ⦃h : Ah⦄ ⦃σ : St⦄ ⦃Q : VK⦄ ⦃v : A⦄ ⦃x : V⦄ ⦃vs : List A⦄ ⦃xs : List V⦄,
  Ext ρ n H ρc h.n Hc → RH g ρc Hc h → RV g ρc h.n Hc v x → RVs g ρc h.n Hc vs xs → Post g W ρ n H σ (VQ g Q) (mop v vs h) → r x xs Hc Q
def isL (v : A) (h : Ah) : Bool := match v with
  | .ref k => (match h.get k with
    | some (.lst _) => true
    | _ => false)
  | _ => false
theorem isL_ty {ρ : Nat → Addr} {H : Hp} {h : Ah} {v : A} {x : V} {K : PySem.W.Frag} (r : RH g ρ H h) (rx : RV g ρ h.n H v x) (q : isL v h = true) : tyV K "list" x H := by
  unfold isL at q
  split at q
  · split at q
    · rename_i xs hk
      obtain ⟨_, rfl⟩ := rx.ref'
      obtain ⟨ys, hy, _⟩ := r.lst hk
      exact .inl ⟨rfl, ys, .of hy⟩
    · cases q
  · cases q
def fMet (mop : GM) (fo : FE) (fs : FA) : FE := fun s h => (fo s h).bind fun v h1 => match isL v h1 with
  | true => (fs s h1).bind fun vs h2 => mop v vs h2
  | false => .no
theorem rdBM {r : V → List V → Hp → VK → Prop} {mop : GM} {fo : FE} {fs : FA} (ok : MetOk g r mop) {σ : St} {H : Hp} {Q : VK} (q : rdE g W (fMet mop fo fs) σ H Q) : tBM X.K "list" r (rdE g W fo) (rdA g W fs) σ H Q := by
  obtain ⟨ρ, s, h, rs, rh, p⟩ := q
  exact rdE.seq (σ' := σ) rs rh .refl p fun v x ρ1 h1 H1 e1 r1 rx p1 => by
    split at p1
    · rename_i hl
      exact ⟨isL_ty r1 rx hl, rdA.seq (rs.mono e1) r1 e1 p1 fun vs xs ρ2 h2 H2 e2 r2 rxs p2 => ok (e1.trans e2) r2 (rx.mono e2) rxs p2⟩
    · exact p1.elim
theorem rdBM0 {r : V → List V → Hp → VK → Prop} {mop : GM} {fo : FE} (ok : MetOk g r mop) {σ : St} {H : Hp} {Q : VK} (q : rdE g W (fMet mop fo fNil) σ H Q) : tBM0 X.K "list" r (rdE g W fo) σ H Q := by
  obtain ⟨ρ, s, h, rs, rh, p⟩ := q
  exact rdE.seq (σ' := σ) rs rh .refl p fun v x ρ1 h1 H1 e1 r1 rx p1 => by
    split at p1
    · rename_i hl
      exact ⟨isL_ty r1 rx hl, ok e1 r1 rx .nil p1⟩
    · exact p1.elim
theorem lenLt {xs : List A} (h : Nat.blt xs.length 16777216 = true) : xs.length < sizeLine := by
  rw [sizeLine_eq]
  exact Nat.blt_eq.mp h
def mAppend : GM := fun v vs h => match v, vs with
  | .ref k, [y] => (match h.get k with
    | some (.lst xs) => (match Nat.blt xs.length 16777216 with
      | true => .ok .non (h.set k (.lst (xs ++ [y])))
      | false => .no)
    | _ => .no)
  | _, _ => .no
theorem mo_append : MetOk g rAppend mAppend := by
  intro W ρ ρc n H Hc h σ Q v x vs xs e r rx rxs p
  unfold mAppend at p
  split at p
  · rename_i k y
    split at p
    · rename_i zs hk
      split at p
      · rename_i hl
        obtain ⟨hlt, rfl⟩ := rx.ref'
        obtain ⟨ys, hy, rys⟩ := r.lst hk
        obtain ⟨y', rfl, ry⟩ := rxs.one
        exact ⟨_, ys, y', rfl, rfl, hy, by rw [← rys.length]; exact lenLt hl, p.set e r hlt hy (rys.append (.cons ry .nil)) rv_non⟩
      · exact p.elim
    · exact p.elim
  · exact p.elim
def mExtend : GM := fun v vs h => match v, vs with
  | .ref k, [.ref j] => (match h.get k, h.get j with
    | some (.lst xs), some (.lst ys) => (match lenOk (xs ++ ys) with
      | true => .ok .non (h.set k (.lst (xs ++ ys)))
      | false => .no)
    | _, _ => .no)
  | _, _ => .no
theorem mo_extend : MetOk g rExtend mExtend := by
  intro W ρ ρc n H Hc h σ Q v x vs xs e r rx rxs p
  unfold mExtend at p
  split at p
  · rename_i k j
    split at p
    · rename_i zs ws hk hj
      split at p
      · rename_i hl
        obtain ⟨hlt, rfl⟩ := rx.ref'
        obtain ⟨ys, hy, rys⟩ := r.lst hk
        obtain ⟨y', rfl, ry⟩ := rxs.one
        obtain ⟨_, rfl⟩ := ry.ref'
        obtain ⟨us, hu, rus⟩ := r.lst hj
        exact ⟨_, _, ys, us, rfl, rfl, hy, hu, by rw [← rys.length, ← rus.length, ← List.length_append]; exact lenOk.le hl, p.set e r hlt hy (rys.append rus) rv_non⟩
      · exact p.elim
    · exact p.elim
  · exact p.elim
def popA (xs : List A) (k : Nat) (i : Nat) (h : Ah) : Rs A := match xs[i]? with
  | some y => .ok y (h.set k (.lst (xs.eraseIdx i)))
  | none => .no
def mPop : GM := fun v vs h => match v, vs with
  | .ref k, [] => (match h.get k with
    | some (.lst xs) => (match xs with
      | [] => .no
      | _ => popA xs k (xs.length - 1) h)
    | _ => .no)
  | .ref k, [.int i] => (match h.get k with
    | some (.lst xs) => (match smallI i, ixN xs.length i with
      | true, some j => popA xs k j h
      | _, _ => .no)
    | _ => .no)
  | _, _ => .no
theorem popA_ok {ρ ρc : Nat → Addr} {n : Nat} {H Hc : Hp} {h : Ah} {σ : St} {Q : VK} {xs : List A} {ys : List V} {k i : Nat} (e : Ext ρ n H ρc h.n Hc) (r : RH g ρc Hc h) (hk : k < h.n) (hy : Hc (ρc k) = some (.lst ys)) (rys : RVs g ρc h.n Hc xs ys)
    (p : Post g W ρ n H σ (VQ g Q) (popA xs k i h)) : ∃ y, ys[i]? = some y ∧ Q y (upd Hc (ρc k) (.lst (ys.eraseIdx i))) := by
  unfold popA at p
  split at p
  · rename_i y ey
    obtain ⟨v, h1, h2⟩ := rys.get ey
    exact ⟨v, h1, p.set e r hk hy (rys.eraseIdx i) h2⟩
  · exact p.elim
theorem dropLast_erase (ys : List V) : ys.dropLast = ys.eraseIdx (ys.length - 1) := by
  induction ys with
  | nil => rfl
  | cons a l ih =>
    cases l with
    | nil => rfl
    | cons b l =>
      show a :: (b :: l).dropLast = (a :: b :: l).eraseIdx ((b :: l).length)
      rw [ih]
      rfl
theorem mo_pop : MetOk g (fun x xs H Q => rPop x xs H Q ∨ rPopAt x xs H Q) mPop := by
  intro W ρ ρc n H Hc h σ Q v x vs xs e r rx rxs p
  unfold mPop at p
  split at p
  · rename_i k
    split at p
    · rename_i zs hk
      split at p
      · exact p.elim
      · rename_i zs' hz
        obtain ⟨hlt, rfl⟩ := rx.ref'
        obtain ⟨ys, hy, rys⟩ := r.lst hk
        cases rxs.unnil
        obtain ⟨y, h1, h2⟩ := popA_ok e r hlt hy rys p
        rw [rys.length] at h1 h2
        exact .inl ⟨_, ys, y, rfl, rfl, hy, h1, by rw [dropLast_erase]; exact h2⟩
    · exact p.elim
  · rename_i k i
    split at p
    · rename_i zs hk
      split at p
      · rename_i j hs hj
        simp only [smallI, Bool.and_eq_true, decide_eq_true_eq] at hs
        obtain ⟨hlt, rfl⟩ := rx.ref'
        obtain ⟨ys, hy, rys⟩ := r.lst hk
        obtain ⟨y', rfl, ry⟩ := rxs.one
        cases ry.int'
        obtain ⟨y, h1, h2⟩ := popA_ok e r hlt hy rys p
        rw [rys.length] at hj
        obtain ⟨q1, _⟩ := ixN_seq hj
        exact .inr ⟨_, ys, i, j, y, rfl, rfl, hy, by omega, by omega, q1, h1, h2⟩
      · exact p.elim
    · exact p.elim
  · exact p.elim
end
end Ev

namespace Ev
open PySem PySem.Spec L2
open PyProof.Rows hiding St

/-! ### what is walked -/
inductive Ja where
  | lst (k : Nat) | tup (xs : List A) | rng (lo : Int) (n : Nat) | zip (a b : Ja) | enum (a : Ja) | ez (a b : Ja)
def Ja.len (j : Ja) (h : Ah) : Option Nat := match j with
  | .lst k => (match h.get k with
    | some (.lst xs) => some xs.length
    | _ => none)
  | .tup xs => some xs.length
  | _ => none
def Ja.nxt (j : Ja) (i : Nat) (h : Ah) : Option (Option A) := match j with
  | .lst k => (match h.get k with
    | some (.lst xs) => some xs[i]?
    | _ => none)
  | .tup xs => some xs[i]?
  | .rng lo n => (match Nat.blt i n with
    | true => some (some (.int (lo + i)))
    | false => some none)
  | .zip a b => (match a.nxt i h, b.nxt i h with
    | some (some x), some (some y) => some (some (.tup [x, y]))
    | _, _ => (match a.len h, b.len h with
      | some la, some lb => (match Nat.ble i la && (Nat.ble i lb && (Nat.beq i la || Nat.beq i lb)) with
        | true => some none
        | false => none)
      | _, _ => none))
  | .enum a => (match a.nxt i h with
    | some (some x) => some (some (.tup [.int i, x]))
    | _ => (match a.len h with
      | some la => (match Nat.beq i la with
        | true => some none
        | false => none)
      | none => none))
  | .ez a b => (match a.nxt i h, b.nxt i h with
    | some (some x), some (some y) => some (some (.tup [.int i, .tup [x, y]]))
    | _, _ => (match a.len h, b.len h with
      | some la, some lb => (match Nat.ble i la && (Nat.ble i lb && (Nat.beq i la || Nat.beq i lb)) with
        | true => some none
        | false => none)
      | _, _ => none))
def RJ (g : Gl) (ρ : Nat → Addr) (n : Nat) (H : Hp) (J : It) (ja : Ja) : Prop := ∀ ⦃ρ' : Nat → Addr⦄ ⦃h' : Ah⦄ ⦃H' : Hp⦄ ⦃i : Nat⦄ ⦃o : Option A⦄, Tp ρ n H ρ' h'.n H' → RH g ρ' H' h' → ja.nxt i h' = some o → match o with
  | some x => J.go i H' ∧ ∀ v H'', J.yld i H' v H'' → Ext ρ' h'.n H' ρ' h'.n H'' ∧ RH g ρ' H'' h' ∧ RV g ρ' h'.n H'' x v
  | none => J.stop i H'
theorem RJ.mono {g : Gl} {ρ ρ' : Nat → Addr} {n n' : Nat} {H H' : Hp} {J : It} {ja : Ja} (r : RJ g ρ n H J ja) (e : Tp ρ n H ρ' n' H') : RJ g ρ' n' H' J ja := fun ρ2 h2 H2 i o e2 r2 q => r (e.trans e2) r2 q
abbrev FI := Sa → Ah → Rs Ja
def rdI (g : Gl) (W : WX) (f : FI) : TI := fun σ H R => ∃ ρ s h, RS g ρ h.n H s σ ∧ RH g ρ H h ∧ Post g W ρ h.n H σ (fun ja ρ' h' H' => ∀ J, RJ g ρ' h'.n H' J ja → R J H') (f s h)
theorem _root_.L2.PI.imp {X : Cx} {tg e : Expr} {t t' : TI} (h : PI X tg e t) (f : ∀ σ H Q, t' σ H Q → t σ H Q) : PI X tg e t' := by
  obtain ⟨r⟩ := h
  exact ⟨fun pins s σ H Q I hw => r pins s σ H Q I (f _ _ _ hw)⟩

def Ot (o : Option A) (P : A → Prop) (N : Prop) : Prop := match o with
  | some x => P x
  | none => N
/-! ### lists and tuples alike -/
def Sq (K : PySem.W.Frag) : Bool → Hp → Addr → List V → Prop
  | true, H, a, xs => SqL K H a xs
  | false, H, a, xs => SqT K H a xs
/-- the sequence at a is ja -/
def Sj (g : Gl) (ρ : Nat → Addr) (n : Nat) (H : Hp) : Bool → Addr → Ja → Prop
  | true, a, ja => ∃ k, k < n ∧ a = ρ k ∧ ja = .lst k
  | false, a, ja => ∃ xs ys, H a = some (.tup ys) ∧ RVs g ρ n H xs ys ∧ ja = .tup xs
section
variable {g : Gl} {ρ ρ' : Nat → Addr} {n : Nat} {H H' : Hp} {h' : Ah} {a : Addr} {ja : Ja} {K : PySem.W.Frag}
theorem RVs.at_none {xs : List A} {ys : List V} {i : Nat} (r : RVs g ρ n H xs ys) (e : xs[i]? = none) : ys[i]? = none := by
  rw [List.getElem?_eq_none_iff] at e ⊢
  rw [← r.length]; exact e
theorem Sj.mono {n' : Nat} {b : Bool} (s : Sj g ρ n H b a ja) (e : Tp ρ n H ρ' n' H') : Sj g ρ' n' H' b a ja := by
  cases b with
  | true =>
    obtain ⟨k, hk, ha, hj⟩ := s
    exact ⟨k, Nat.lt_of_lt_of_le hk e.le, by rw [e.ag k hk]; exact ha, hj⟩
  | false =>
    obtain ⟨xs, ys, h1, h2, hj⟩ := s
    exact ⟨xs, ys, e.tp _ _ h1, h2.monoT e, hj⟩
theorem Sj.nxt {b : Bool} {i : Nat} {o : Option A} (s : Sj g ρ h'.n H' b a ja) (r : RH g ρ H' h') (q : ja.nxt i h' = some o) : ∃ ys, Sq K b H' a ys ∧ Ot o (fun x => ∃ v, ys[i]? = some v ∧ RV g ρ h'.n H' x v) (ys[i]? = none) := by
  cases b with
  | true =>
    obtain ⟨k, hk, rfl, rfl⟩ := s
    unfold Ja.nxt at q
    split at q
    · rename_i xs ek
      obtain ⟨ys, hy, rys⟩ := r.lst ek
      have q := Option.some.inj q
      subst q
      refine ⟨ys, .of hy, ?_⟩
      cases ex : xs[i]? with
      | some x => exact rys.get ex
      | none => exact rys.at_none ex
    · cases q
  | false =>
    obtain ⟨xs, ys, hy, rys, rfl⟩ := s
    unfold Ja.nxt at q
    have q := Option.some.inj q
    subst q
    refine ⟨ys, .of hy, ?_⟩
    cases ex : xs[i]? with
    | some x => exact rys.get ex
    | none => exact rys.at_none ex
theorem Sj.len {b : Bool} {l : Nat} (s : Sj g ρ h'.n H' b a ja) (r : RH g ρ H' h') (q : ja.len h' = some l) : ∃ ys, Sq K b H' a ys ∧ ys.length = l := by
  cases b with
  | true =>
    obtain ⟨k, hk, rfl, rfl⟩ := s
    unfold Ja.len at q
    split at q
    · rename_i z; cases z
      split at q
      · rename_i xs ek
        obtain ⟨ys, hy, rys⟩ := r.lst ek
        cases q
        exact ⟨ys, .of hy, rys.length.symm⟩
      · cases q
    · rename_i z; cases z
    · rename_i z1 z2; exact (z1 _ rfl).elim
  | false =>
    obtain ⟨xs, ys, hy, rys, rfl⟩ := s
    cases q
    exact ⟨ys, .of hy, rys.length.symm⟩
def Itsq (K : PySem.W.Frag) (b : Bool) (a : Addr) : It := match b with
  | true => Itl K a
  | false => Itt K a
theorem rj_one {b : Bool} (s : Sj g ρ n H b a ja) : RJ g ρ n H (Itsq K b a) ja := by
  intro ρ' h' H' i o e r q
  obtain ⟨ys, h1, h2⟩ := (s.mono e).nxt (K := K) r q
  cases o with
  | some x =>
    obtain ⟨v, e1, e2⟩ := h2
    cases b with
    | true => exact ⟨⟨ys, v, h1, e1⟩, fun u H'' ⟨z1, z2⟩ => by
        subst z1
        have := z2 ys h1
        rw [e1] at this
        cases this
        exact ⟨.refl, r, e2⟩⟩
    | false => exact ⟨⟨ys, v, h1, e1⟩, fun u H'' ⟨z1, z2⟩ => by
        subst z1
        have := z2 ys h1
        rw [e1] at this
        cases this
        exact ⟨.refl, r, e2⟩⟩
  | none =>
    have h2 := List.getElem?_eq_none_iff.mp h2
    cases b with
    | true => exact ⟨ys, h1, h2⟩
    | false => exact ⟨ys, h1, h2⟩
theorem rj_rng {lo : Int} {k : Nat} : RJ g ρ n H (Itr lo k) (.rng lo k) := by
  intro ρ' h' H' i o e r q
  unfold Ja.nxt at q
  split at q
  · rename_i hlt
    cases q
    exact ⟨Nat.blt_eq.mp hlt, fun u H'' ⟨z1, z2⟩ => by
      subst z1 z2
      exact ⟨.refl, r, rv_int⟩⟩
  · rename_i hlt
    cases q
    show k ≤ i
    rcases Nat.lt_or_ge i k with z | z
    · rw [Nat.blt_eq.mpr z] at hlt; cases hlt
    · exact z
/-- pairs: the items of a and b -/
def Itz2 (K : PySem.W.Frag) (ka kb : Bool) (a b : Addr) : It :=
  ⟨fun i H => ∃ xs ys x y, Sq K ka H a xs ∧ Sq K kb H b ys ∧ xs[i]? = some x ∧ ys[i]? = some y,
    fun i H v H' => ∃ T x y, v = .ref T ∧ H T = none ∧ H' = upd H T (.tup [x, y]) ∧ (∀ xs, Sq K ka H a xs → xs[i]? = some x) ∧ ∀ ys, Sq K kb H b ys → ys[i]? = some y,
    fun i H => ∃ xs ys, Sq K ka H a xs ∧ Sq K kb H b ys ∧ i ≤ xs.length ∧ i ≤ ys.length ∧ (i = xs.length ∨ i = ys.length)⟩
def Ite2 (K : PySem.W.Frag) (ka : Bool) (a : Addr) : It :=
  ⟨fun i H => ∃ xs x, Sq K ka H a xs ∧ xs[i]? = some x,
    fun i H v H' => ∃ T x, v = .ref T ∧ H T = none ∧ H' = upd H T (.tup [.int (i : Nat), x]) ∧ (∀ xs, Sq K ka H a xs → xs[i]? = some x),
    fun i H => ∃ xs, Sq K ka H a xs ∧ i = xs.length⟩
theorem rj_zip {b : Addr} {jb : Ja} {ka kb : Bool} (s : Sj g ρ n H ka a ja) (t : Sj g ρ n H kb b jb) : RJ g ρ n H (Itz2 K ka kb a b) (.zip ja jb) := by
  intro ρ' h' H' i o e r q
  unfold Ja.nxt at q
  split at q
  · rename_i x y e1 e2
    cases q
    obtain ⟨ys, h1, v, h2, h3⟩ := (s.mono e).nxt (K := K) r e1
    obtain ⟨zs, k1, w, k2, k3⟩ := (t.mono e).nxt (K := K) r e2
    refine ⟨⟨ys, zs, v, w, h1, k1, h2, k2⟩, fun u H'' ⟨T, x', y', z1, z2, z3, z4, z5⟩ => ?_⟩
    subst z1 z3
    have z4 := z4 ys h1
    rw [h2] at z4; cases z4
    have z5 := z5 zs k1
    rw [k2] at z5; cases z5
    exact ⟨ext_new z2, r.new z2, rv_tup upd_same (.cons (h3.mono (ext_new z2)) (.cons (k3.mono (ext_new z2)) .nil))⟩
  · split at q
    · rename_i la lb e1 e2
      split at q
      · rename_i hb
        cases q
        simp only [Bool.and_eq_true, Bool.or_eq_true, Nat.ble_eq, Nat.beq_eq] at hb
        obtain ⟨ys, h1, h2⟩ := (s.mono e).len (K := K) r e1
        obtain ⟨zs, k1, k2⟩ := (t.mono e).len (K := K) r e2
        exact ⟨ys, zs, h1, k1, by rw [h2]; exact hb.1, by rw [k2]; exact hb.2.1, by rw [h2, k2]; exact hb.2.2⟩
      · cases q
    · cases q
theorem rj_enum {ka : Bool} (s : Sj g ρ n H ka a ja) : RJ g ρ n H (Ite2 K ka a) (.enum ja) := by
  intro ρ' h' H' i o e r q
  unfold Ja.nxt at q
  split at q
  · rename_i x e1
    cases q
    obtain ⟨ys, h1, v, h2, h3⟩ := (s.mono e).nxt (K := K) r e1
    refine ⟨⟨ys, v, h1, h2⟩, fun u H'' ⟨T, x', z1, z2, z3, z4⟩ => ?_⟩
    subst z1 z3
    have z4 := z4 ys h1
    rw [h2] at z4; cases z4
    exact ⟨ext_new z2, r.new z2, rv_tup upd_same (.cons rv_int (.cons (h3.mono (ext_new z2)) .nil))⟩
  · split at q
    · rename_i la e1
      split at q
      · rename_i hb
        cases q
        obtain ⟨ys, h1, h2⟩ := (s.mono e).len (K := K) r e1
        exact ⟨ys, h1, by rw [h2]; exact Nat.eq_of_beq_eq_true hb⟩
      · cases q
    · cases q
def seqJ (v : A) (h : Ah) : Option Ja := match v with
  | .tup xs => some (.tup xs)
  | .ref k => (match h.get k with
    | some (.lst _) => some (.lst k)
    | _ => none)
  | _ => none
theorem seqJ_ok {h : Ah} {v : A} {x : V} (r : RH g ρ H h) (rx : RV g ρ h.n H v x) (e : seqJ v h = some ja) : ∃ b a ys, x = .ref a ∧ Sj g ρ h.n H b a ja ∧ Sq K b H a ys := by
  unfold seqJ at e
  split at e
  · cases e
    obtain ⟨p, ys, rfl, h1, h2⟩ := rx.tup'
    exact ⟨false, p, ys, rfl, ⟨_, _, h1, h2, rfl⟩, .of h1⟩
  · split at e
    · rename_i xs hk
      cases e
      obtain ⟨hk', rfl⟩ := rx.ref'
      obtain ⟨ys, hy, _⟩ := r.lst hk
      exact ⟨true, _, ys, rfl, ⟨_, hk', rfl, rfl⟩, .of hy⟩
    · cases e
  · cases e
end

/-! ### walking a list or a tuple -/
section
variable {X : Cx} {g : Gl} {W : WX} {pos : Pos} {tg : Expr}
theorem pi_sq {l : Expr} {tl : TE} (hl : PE X l tl) : PI X tg l (fun σ H R => tl σ H fun x HB => ∃ b a ys, x = .ref a ∧ Sq X.K b HB a ys ∧ R (Itsq X.K b a) HB) := by
  refine ⟨fun pl s σ H R I h => ?_⟩
  refine thn (hl.run pl s σ H _ I h) fun v sB ⟨x, HB, IB, rB, qB⟩ => ?_
  obtain ⟨b, a, as_, e, sqa, q⟩ := qB
  subst e
  cases rB
  have fp : ∀ c ∈ [sB.heap.objs.size], FpOk X pl HB c := fun c hb => by
    have e : c = sB.heap.objs.size := by simpa using hb
    subst e
    exact IB.fpOk (Nat.le_refl _) (IB.hok.fresh (Nat.le_refl _))
  cases b with
  | true =>
    obtain ⟨im, vs1, p, cz⟩ := IB.list sqa
    exact wpAny_pyIter_list p.isList ⟨sB.heap.objs.size, [sB.heap.objs.size], _, _, HB, rfl, IB.kept (t' := sB.toks) fun b o e => Heap.get?_push_of_some _ e, turn_list a _, ⟨_, Heap.get?_push_size _ rfl, rfl, rfl⟩, fp, q⟩
  | false =>
    obtain ⟨im, vs1, p, cz⟩ := IB.tuple sqa
    refine wpAny_pyIter_tuple (show sB.heap.IsTuple a im.toArray from p) ?_
    exact ⟨sB.heap.objs.size, [sB.heap.objs.size], _, _, HB, rfl, IB.kept (t' := sB.toks) fun b o e => Heap.get?_push_of_some _ e, turn_tuple a _, ⟨_, Heap.get?_push_size _ rfl, rfl, rfl⟩, fp, q⟩
def iSeqA (f : FE) : FI := fun s h => (f s h).bind fun v h1 => match seqJ v h1 with
  | some j => .ok j h1
  | none => .no
theorem ei_seq {e : Expr} {f : FE} (ce : PE X e (rdE g W f)) : PI X tg e (rdI g W (iSeqA f)) :=
  (pi_sq ce).imp fun σ H R ⟨ρ, s, h, rs, r, p⟩ => rdE.seq (σ' := σ) rs r .refl p fun v x ρ1 h1 HB e1 rB rx p1 => by
    split at p1
    · rename_i j hj
      obtain ⟨b, a, ys, rfl, sj, sq⟩ := seqJ_ok (K := X.K) rB rx hj
      exact ⟨b, a, ys, rfl, sq, p1.now e1 rB _ (rj_one sj)⟩
    · exact p1.elim
end
/-! ### range, zip, enumerate -/
def IsIt (b : Bool) (h : Heap) (it a : Addr) (i : Nat) : Prop := match b with
  | true => h.IsListIter it a i
  | false => h.IsTupleIter it a i
def IsSq (b : Bool) (h : Heap) (a : Addr) (items : Array Value) : Prop := match b with
  | true => h.IsList a items
  | false => h.IsTuple a items
theorem draws_sq {P : Program} {w : World} {A : Around} (hh : A.handled = none) (b : Bool) (it a : Addr) (hne : a ≠ it) (items : Array Value) : Draws P w A it [it, a] items.size (fun i v => items[i]? = some v) (fun i h => IsIt b h it a i ∧ IsSq b h a items) := by
  cases b with
  | true => exact .list hh it a hne items
  | false => exact .tuple hh it a hne items
def itObj (b : Bool) (a : Addr) : Obj := { cls := .type (match b with | true => "list_iterator" | false => "tuple_iterator"), data := .fields #[.ref a, .int 0 0] }
theorem begins_sq (b : Bool) (a : Addr) (items : Array Value) : Begins (.ref a) (itObj b a) fun h => IsSq b h a items := by
  cases b with
  | true => exact begins_list a items
  | false => exact begins_tuple a items
theorem is_it0 {b : Bool} {h : Heap} {it a : Addr} (e : h.get? it = some (itObj b a)) : IsIt b h it a 0 := by
  cases b with
  | true => exact ⟨_, e, rfl, rfl⟩
  | false => exact ⟨_, e, rfl, rfl⟩
theorem IsIt.obj {b : Bool} {h : Heap} {it a : Addr} {i : Nat} (x : IsIt b h it a i) : ∃ o, h.get? it = some o ∧ ∀ v, o.data ≠ .cell v := by
  cases b with
  | true => obtain ⟨o, e, _, d⟩ := x; exact ⟨o, e, fun v q => by rw [d] at q; cases q⟩
  | false => obtain ⟨o, e, _, d⟩ := x; exact ⟨o, e, fun v q => by rw [d] at q; cases q⟩
theorem IsIt.at' {b : Bool} {h h' : Heap} {it a : Addr} {i : Nat} (x : IsIt b h it a i) (k : ∀ o, h.get? it = some o → h'.get? it = some o) : IsIt b h' it a i := by
  cases b with
  | true => exact Heap.IsListIter.at x k
  | false => exact Heap.IsTupleIter.at x k
theorem IsSq.lt {b : Bool} {h : Heap} {a : Addr} {items : Array Value} (x : IsSq b h a items) : a < h.objs.size := by
  cases b with
  | true => obtain ⟨o, e, _⟩ := x; exact Heap.lt_size e
  | false => obtain ⟨o, e, _⟩ := x; exact Heap.lt_size e
theorem IsSq.apart {b b' : Bool} {h : Heap} {a it a' : Addr} {i : Nat} {items : Array Value} (x : IsSq b h a items) (y : IsIt b' h it a' i) : a ≠ it := fun q => by
  subst q
  have e : ∃ o k, h.get? a = some o ∧ ∃ n, o.data = .seq k n := by
    cases b with
    | true => obtain ⟨o, e, _, n, d⟩ := x; exact ⟨o, _, e, _, d⟩
    | false => obtain ⟨o, e, _, n, d⟩ := x; exact ⟨o, _, e, _, d⟩
  obtain ⟨o, k, e, n, d⟩ := e
  cases b' with
  | true =>
    obtain ⟨o', wh, _, d'⟩ := y
    rw [e] at wh; cases wh; rw [d] at d'; cases d'
  | false =>
    obtain ⟨o', wh, _, d'⟩ := y
    rw [e] at wh; cases wh; rw [d] at d'; cases d'
theorem sq_get {X : Cx} {pl : List (Addr × Obj)} {σ : St} {H : Hp} {s : Shared} {b : Bool} {a : Addr} {as_ : List V} (I : Inv X pl σ H s) (q : Sq X.K b H a as_) : ∃ im, Vals as_ im ∧ IsSq b s.heap a im.toArray := by
  cases b with
  | true => obtain ⟨im, vs1, p, _⟩ := I.list q; exact ⟨im, vs1, p.isList⟩
  | false => obtain ⟨im, vs1, p, _⟩ := I.tuple q; exact ⟨im, vs1, p⟩
theorem sq_inj {X : Cx} {pl : List (Addr × Obj)} {σ : St} {H : Hp} {s : Shared} {b : Bool} {a : Addr} {as_ ys : List V} (I : Inv X pl σ H s) (q : Sq X.K b H a as_) (q' : Sq X.K b H a ys) : as_ = ys := by
  cases b with
  | true => exact I.list_inj q q'
  | false => exact I.tuple_inj q q'
theorem turn_zip2 {P : Program} {w : World} {K : PySem.W.Frag} {elts : List Expr} {kk : Nat} {tpos : Pos} {a b z TI TO i1 i2 : Addr} {ka kb : Bool} (S : ZipSep2 z TI TO i1 i2 [i1, a] [i2, b]) :
    Turn P w K (.Tuple elts kk tpos) (Itz2 K ka kb a b) [z, TI, TO, i1, i2] z (fun i h => IsZip h z TI TO .none ∧ IsTupOf2 h TI (.ref i1) (.ref i2) ∧ (∃ x y, IsTupOf2 h TO x y) ∧ IsIt ka h i1 a i ∧ IsIt kb h i2 b i) where
  mem := by simp
  obj := fun i h now_ c hc => by
    obtain ⟨cz, cI, ⟨x, y, cO⟩, h1, h2⟩ := now_
    have wh : c = z ∨ c = TI ∨ c = TO ∨ c = i1 ∨ c = i2 := by simpa using hc
    rcases wh with q | q | q | q | q
    · rw [q]; exact ⟨_, cz, fun v q => nomatch q⟩
    · rw [q]; exact ⟨_, cI, fun v q => nomatch q⟩
    · rw [q]; exact ⟨_, cO, fun v q => nomatch q⟩
    · rw [q]; exact h1.obj
    · rw [q]; exact h2.obj
  keep := fun i h h' now_ k => by
    obtain ⟨cz, cI, ⟨x, y, cO⟩, h1, h2⟩ := now_
    exact ⟨k z (by simp) _ cz, k TI (by simp) _ cI, ⟨x, y, k TO (by simp) _ cO⟩, h1.at' fun o q => k i1 (by simp) o q, h2.at' fun o q => k i2 (by simp) o q⟩
  item := by
    intro X eP eW eK hc i pl s σ H E I hf now_ gos
    subst eP eW eK
    obtain ⟨cz, cI, ⟨o1, o2, cO⟩, h1, h2⟩ := now_
    obtain ⟨as_, ys, x, y, qa, qb, gx, gy⟩ := gos
    obtain ⟨im, vs1, p⟩ := sq_get I qa
    obtain ⟨im2, vs2, p2⟩ := sq_get I qb
    obtain ⟨u, gu, vu⟩ := vs1.get gx
    obtain ⟨u2, gu2, vu2⟩ := vs2.get gy
    have zlt : z < s.heap.objs.size := Heap.lt_size cz
    have hh : X.A.in1.handled = none := I.ok.hd hc
    have na : a ≠ i1 := p.apart h1
    have nb : b ≠ i2 := p2.apart h2
    refine wpAny_pyNext_zipD2_item (a1 := o1) (a2 := o2) S (draws_sq hh ka i1 a na im.toArray) (draws_sq hh kb i2 b nb im2.toArray) cz cI cO ⟨h1, p⟩ ⟨h2, p2⟩ ?_ ?_ fun x1 x2 h' tk px1 px2 z' TO' st1 st2 hT szs kps => ?_
    · have := (List.getElem?_eq_some_iff.mp gu).1; simpa using this
    · have := (List.getElem?_eq_some_iff.mp gu2).1; simpa using this
    have ex1 : x1 = u := by simp only [List.getElem?_toArray] at px1; rw [gu] at px1; cases px1; rfl
    have ex2 : x2 = u2 := by simp only [List.getElem?_toArray] at px2; rw [gu2] at px2; cases px2; rfl
    subst ex1 ex2
    refine ⟨_, rfl, wpAny_letOwnedTupleGo_zip (s := { s with heap := h', toks := tk }) z' fun h'' z'' sb => ?_⟩
    have hT2 : h''.get? s.heap.objs.size = some { cls := .type "tuple", data := .seq #[x1, x2] } := (sb.2 _ (Nat.ne_of_gt zlt)).trans hT
    have nob : ObjOk X.prog X.w (upd H s.heap.objs.size (.tup [x, y])) h'' s.heap.objs.size (.tup [x, y]) :=
      ⟨by show 2 ≤ sizeLine; decide, [x1, x2], .cons vu (.cons vu2 .nil), ⟨_, hT2, rfl, _, rfl⟩⟩
    have IB : Inv X pl σ (upd H s.heap.objs.size (.tup [x, y])) { s with heap := h'', toks := tk } :=
      I.turnedNew (t' := tk) (ch := [z, TI, TO, i1, i2]) (fun c o hb q => (sb.2 c (fun q' => hb (by simp [q']))).trans (kps c o (fun q' => hb (by simp [q'])) (fun q' => hb (by simp [q'])) (fun q' => hb (by simp [q'])) (fun q' => hb (by simp [q'])) q)) hf (Nat.le_refl _) nob
    refine ⟨.ref s.heap.objs.size, _, IB, rfl, ⟨_, x, y, rfl, I.hok.fresh (Nat.le_refl _), rfl, fun l hl => by rw [sq_inj I hl qa]; exact gx, fun l hl => by rw [sq_inj I hl qb]; exact gy⟩, ⟨z'', ?_, ⟨x1, x2, ?_⟩, ?_, ?_⟩, fun c hcm => ?_⟩
    · exact (sb.2 _ S.TIz).trans (kps _ _ S.TIz S.TITO S.TIi1 S.TIi2 cI)
    · exact (sb.2 _ S.TOz).trans TO'
    · exact st1.1.at' fun o q => (sb.2 _ S.zi1.symm).trans q
    · exact st2.1.at' fun o q => (sb.2 _ S.zi2.symm).trans q
    · have blw : c < s.heap.objs.size := by
        have wh : c = z ∨ c = TI ∨ c = TO ∨ c = i1 ∨ c = i2 := by simpa using hcm
        rcases wh with q | q | q | q | q
        · rw [q]; exact zlt
        · rw [q]; exact Heap.lt_size cI
        · rw [q]; exact Heap.lt_size cO
        · rw [q]; obtain ⟨_, e1, _⟩ := h1.obj; exact Heap.lt_size e1
        · rw [q]; obtain ⟨_, e2, _⟩ := h2.obj; exact Heap.lt_size e2
      rw [upd_ne (Nat.ne_of_lt blw)]
      exact (hf c hcm).1
  done := by
    intro X eP eW eK hc i pl s σ H E I hf now_ gos
    subst eP eW eK
    obtain ⟨cz, cI, ⟨o1, o2, cO⟩, h1, h2⟩ := now_
    obtain ⟨as_, ys, qa, qb, l1, l2, hend⟩ := gos
    obtain ⟨im, vs1, p⟩ := sq_get I qa
    obtain ⟨im2, vs2, p2⟩ := sq_get I qb
    have e1 := vs1.length
    have e2 := vs2.length
    have hh : X.A.in1.handled = none := I.ok.hd hc
    exact wpAny_pyNext_zipD2_end (a1 := o1) (a2 := o2) S (draws_sq hh ka i1 a (p.apart h1) im.toArray) (draws_sq hh kb i2 b (p2.apart h2) im2.toArray) cz cI cO ⟨h1, p⟩ ⟨h2, p2⟩ (by simp; omega) (by simp; omega) (by simp; omega)
      fun h' tk kps => ⟨rfl, I.turnedL (t' := tk) (ch := [z, TI, TO, i1, i2]) (fun c o hb q =>
      kps c o (fun q' => hb (by simp [q'])) (fun q' => hb (by simp [q'])) (fun q' => hb (by simp [q'])) (fun q' => hb (by simp [q'])) q) hf⟩
  self := fun A i s Q E now_ h => wpAny_pyIter_zip now_.1 h
end Ev

namespace Ev
open PySem PySem.Spec L2
open PyProof.Rows hiding St
set_option maxHeartbeats 900000 in
theorem meets_enum1 {v : Value} {o : Obj} {H : Heap → Prop} (B : Begins v o H) :
    Meets (Builtin.«enumerate.__new__» ⟨[.type "enumerate", v], []⟩) (fun _ R s => H s.heap ∧
      R (.ok (.ret (.ref (s.heap.push o).objs.size))) { s with heap := (s.heap.push o).push { cls := .type "enumerate", data := .fields #[.none, .bool false, .ref s.heap.objs.size, rawInt 0, .none, .none] } }) :=
  .of_wp fun prog w A R s ⟨h1, h⟩ => by
    obtain ⟨hp, gn, d, tk, os⟩ := s
    have hsub := sub_enumerate
    have qB : ∀ {A' : Around} {E : Value → Shared → Prop} {Q : Value → Shared → Prop}, Q (.ref hp.objs.size) ⟨hp.push o, gn, d, tk, os⟩ → wpAny (model prog w) A' (pyIter v) Q E ⟨hp, gn, d, tk, os⟩ :=
      B.iter prog w _ _ ⟨hp, gn, d, tk, os⟩ _ h1
    wp_walk using qB
    refine wpAny_stack_any fun now_ => wpAny_pure ?_
    split
    · rename_i c _ _ _ _ _
      rcases (c == Value.type "enumerate")
      · wp_walk using qB
        exact ⟨_, rfl, h⟩
      · wp_walk using qB
        exact ⟨_, rfl, h⟩
    · wp_walk using qB
      exact ⟨_, rfl, h⟩
theorem call_enum1 {prog : Program} {w : World} {A : Around} {E : Value → Shared → Prop} {s : Shared} {v : Value} {o : Obj} {H : Heap → Prop} {Q : Value → Shared → Prop} (B : Begins v o H) (h1 : H s.heap)
    (h : ∀ h', IsEnum h' (s.heap.objs.size + 1) s.heap.objs.size 0 .none → h'.get? s.heap.objs.size = some o → h'.objs.size = s.heap.objs.size + 2 →
      (∀ b o, s.heap.get? b = some o → h'.get? b = some o) → Q (.ref (s.heap.objs.size + 1)) { s with heap := h' }) : wpAny (model prog w) A (call (.type "enumerate") [v]) Q E s := by
  refine callType_new F.called_enumerate (by decide) (F.typeCall_enumerate_1 _) (F.newCall_enumerate_1 _) (fun obj => F.args_object_init_2 obj _) F.entry_enumerate_new (meets_enum1 B) ⟨h1, ?_⟩
  have cz : (s.heap.push o).objs.size = s.heap.objs.size + 1 := Heap.size_push ..
  show _ ∧ _
  rw [cz]
  have ce : IsEnum ((s.heap.push o).push { cls := .type "enumerate", data := .fields #[.none, .bool false, .ref s.heap.objs.size, rawInt 0, .none, .none] }) (s.heap.objs.size + 1) s.heap.objs.size 0 .none := by
    have := Heap.get?_push_size (s.heap.push o) (o := { cls := .type "enumerate", data := .fields #[.none, .bool false, .ref s.heap.objs.size, rawInt 0, .none, .none] }) rfl
    rw [cz] at this; exact this
  refine ⟨⟨_, ce, rfl⟩, h _ ce (Heap.get?_push_of_some _ (Heap.get?_push_size _ B.free)) (by rw [Heap.size_push, cz]) fun b o x => Heap.get?_push_of_some _ (Heap.get?_push_of_some _ x)⟩
theorem turn_enum2 {P : Program} {w : World} {K : PySem.W.Frag} {elts : List Expr} {kk : Nat} {tpos : Pos} {a e it : Addr} {ka : Bool} (hne : e ≠ it) (hea : e ≠ a) :
    Turn P w K (.Tuple elts kk tpos) (Ite2 K ka a) [e, it] e (fun i h => (∃ old, IsEnum h e it ((i : Nat) : Int) old) ∧ IsIt ka h it a i) where
  mem := by simp
  obj := fun i h now_ b hb => by
    obtain ⟨⟨old, ce⟩, h1⟩ := now_
    have wh : b = e ∨ b = it := by simpa using hb
    rcases wh with z | z
    · rw [z]; exact ⟨_, ce, fun v q => nomatch q⟩
    · rw [z]; exact h1.obj
  keep := fun i h h' now_ k => let ⟨⟨old, ce⟩, hi⟩ := now_; ⟨⟨old, k e (by simp) _ ce⟩, hi.at' fun o q => k it (by simp) o q⟩
  item := by
    intro X eP eW eK hc i pl s σ H E I hf now_ gos
    subst eP eW eK
    obtain ⟨⟨old, ce⟩, ci⟩ := now_
    obtain ⟨as_, x, sqa, gx⟩ := gos
    obtain ⟨im, vs1, p⟩ := sq_get I sqa
    obtain ⟨u, gu, vu⟩ := vs1.get gx
    have elt_ : e < s.heap.objs.size := Heap.lt_size ce
    have ilt : it < s.heap.objs.size := by obtain ⟨_, q, _⟩ := ci.obj; exact Heap.lt_size q
    have hh : X.A.in1.handled = none := I.ok.hd hc
    refine wpAny_pyNext_enum_itemD (draws_sq hh ka it a (p.apart ci) im.toArray) ce ⟨ci, p⟩ ?_ hne (by simp [hne, hea]) fun x1 h' tk px ho st' hT szs kps => ?_
    · have := (List.getElem?_eq_some_iff.mp gu).1; simpa using this
    have ex1 : x1 = u := by simp only [List.getElem?_toArray] at px; rw [gu] at px; cases px; rfl
    subst ex1
    refine ⟨_, rfl, wpAny_letOwnedTupleGo_enum (s := { s with heap := h', toks := tk + 1 }) ho fun h'' he' sb => ?_⟩
    have hT2 : h''.get? s.heap.objs.size = some { cls := .type "tuple", data := .seq #[.int i tk, x1] } := (sb.2 _ (Nat.ne_of_gt elt_)).trans hT
    have nob : ObjOk X.prog X.w (upd H s.heap.objs.size (.tup [.int (i : Nat), x])) h'' s.heap.objs.size (.tup [.int (i : Nat), x]) :=
      ⟨by show 2 ≤ sizeLine; decide, [.int i tk, x1], .cons ⟨_, rfl⟩ (.cons vu .nil), ⟨_, hT2, rfl, _, rfl⟩⟩
    have IB : Inv X pl σ (upd H s.heap.objs.size (.tup [.int (i : Nat), x])) { s with heap := h'', toks := tk + 1 } :=
      I.turnedNew (ch := [e, it]) (fun b ob hb q => (sb.2 b (fun z => hb (by simp [z]))).trans (kps b ob (fun z => hb (by simp [z])) (fun z => hb (by simp [z])) q)) hf (Nat.le_refl _) nob
    refine ⟨.ref s.heap.objs.size, _, IB, rfl, ⟨_, x, rfl, I.hok.fresh (Nat.le_refl _), rfl, fun ys gy => by rw [sq_inj I gy sqa]; exact gx⟩, ⟨⟨x1, ?_⟩, st'.1.at' fun o q => (sb.2 it (Ne.symm hne)).trans q⟩, fun b hb => ?_⟩
    · rw [show ((i + 1 : Nat) : Int) = (i : Int) + 1 by omega]; exact he'
    · have lb : b < s.heap.objs.size := by
        have wh : b = e ∨ b = it := by simpa using hb
        rcases wh with z | z
        · rw [z]; exact elt_
        · rw [z]; exact ilt
      rw [upd_ne (Nat.ne_of_lt lb)]
      exact (hf b hb).1
  done := by
    intro X eP eW eK hc i pl s σ H E I hf now_ gos
    subst eP eW eK
    obtain ⟨⟨old, ce⟩, ci⟩ := now_
    obtain ⟨as_, sqa, gx⟩ := gos
    obtain ⟨im, vs1, p⟩ := sq_get I sqa
    obtain ⟨g0, g1, g2, g3, g4, g5⟩ := hf it (by simp)
    have hl := vs1.length
    have hh : X.A.in1.handled = none := I.ok.hd hc
    have ei : i = im.toArray.size := by simp; omega
    exact wpAny_pyNext_enum_endD (draws_sq hh ka it a (p.apart ci) im.toArray) ce (by rw [← ei]; exact ⟨ci, p⟩) fun h' eb => ⟨rfl, I.turned (t' := s.toks) (fun b o hb q => eb b o hb q) g0 g1 g3 g4 g5⟩
  self := fun A i s Q E now_ h => let ⟨⟨_, ce⟩, _⟩ := now_; wpAny_pyIter_enum ce h
section
variable {X : Cx} {g : Gl} {W : WX}
theorem pi_enum2 {e : Expr} {ta : TA} {p pos tpos : Pos} {elts : List Expr} {kk : Nat} (gos : L2.Gl X "enumerate") (hm : X.mg "enumerate" = none) (ha : PA X [e] ta) (hs : starEach [e] X.env = [(false, eval e X.env)] := by rfl) :
    PI X (.Tuple elts kk tpos) (.Call (.Name "enumerate" p) [e] [] pos) (fun σ H R => ta σ H fun vs HB => ∃ b a as_, vs = [.ref a] ∧ Sq X.K b HB a as_ ∧ R (Ite2 X.K b a) HB) := by
  refine ⟨fun pl s σ H R I h => ?_⟩
  refine Call_ (ld_blt I gos hm boot_enumerate (PyProof.Rows.callWith_type1 (thn (ha.run pos pl s σ H _ I h) fun ws sB ⟨vs, HB, IB, rB, qB⟩ => ?_) hs rfl))
  obtain ⟨b, a, as_, ex, sqa, q⟩ := qB
  subst ex
  cases rB with
  | cons r rr =>
    cases rr
    cases r
    obtain ⟨im, vs1, p'⟩ := sq_get IB sqa
    refine call_enum1 (begins_sq b a im.toArray) p' fun h' ce ci szs kps => wpAny_pyIter_enum ce ?_
    have I2 : Inv X pl σ HB { sB with heap := h' } := IB.kept (t' := sB.toks) kps
    refine ⟨sB.heap.objs.size + 1, [sB.heap.objs.size + 1, sB.heap.objs.size], _, _, HB, rfl, I2, turn_enum2 (ka := b) (a := a) (Nat.succ_ne_self _) (Nat.ne_of_gt (Nat.lt_succ_of_lt p'.lt)), ⟨⟨.none, ce⟩, is_it0 ci⟩, fun b hb => ?_, q⟩
    have wh : b = sB.heap.objs.size + 1 ∨ b = sB.heap.objs.size := by simpa using hb
    have abv : sB.heap.objs.size ≤ b := by
      rcases wh with z | z <;> rw [z] <;> first | exact Nat.le_add_right _ _ | exact Nat.le_refl _
    exact IB.fpOk abv (IB.hok.fresh abv)
theorem pi_zip2 {e e2 : Expr} {ta : TA} {p pos tpos : Pos} {elts : List Expr} {kk : Nat} (gos : L2.Gl X "zip") (hm : X.mg "zip" = none) (ha : PA X [e, e2] ta) (hs : starEach [e, e2] X.env = (false, eval e X.env) :: starEach [e2] X.env := by rfl) (hpl : (backTo pos (starEach [e2] X.env)).any (·.1) = false := by rfl) :
    PI X (.Tuple elts kk tpos) (.Call (.Name "zip" p) [e, e2] [] pos) (fun σ H R => ta σ H fun vs HB => ∃ ka kb a b as_ ys, vs = [.ref a, .ref b] ∧ Sq X.K ka HB a as_ ∧ Sq X.K kb HB b ys ∧ R (Itz2 X.K ka kb a b) HB) := by
  refine ⟨fun pl s σ H R I h => ?_⟩
  refine Call_ (ld_blt I gos hm PyProof.Rows.boot_zip (PyProof.Rows.callWith_type1 (thn (ha.run pos pl s σ H _ I h) fun ws sB ⟨vs, HB, IB, rB, qB⟩ => ?_) hs hpl))
  obtain ⟨ka, kb, a, b, as_, ys, ex, qa, qb, q⟩ := qB
  subst ex
  cases rB with
  | cons r rr =>
    cases rr with
    | cons r' rr =>
      cases rr
      cases r
      cases r'
      have new5 : ∀ c, c ∈ [sB.heap.objs.size + 4, sB.heap.objs.size + 2, sB.heap.objs.size + 3, sB.heap.objs.size, sB.heap.objs.size + 1] → FpOk X pl HB c := fun c hcm => by
        have wh : c = sB.heap.objs.size + 4 ∨ c = sB.heap.objs.size + 2 ∨ c = sB.heap.objs.size + 3 ∨ c = sB.heap.objs.size ∨ c = sB.heap.objs.size + 1 := by simpa using hcm
        have abv : sB.heap.objs.size ≤ c := by
          rcases wh with z | z | z | z | z <;> rw [z] <;> first | exact Nat.le_add_right _ _ | exact Nat.le_refl _
        exact IB.fpOk abv (IB.hok.fresh abv)
      obtain ⟨im, vs1, p1⟩ := sq_get IB qa
      obtain ⟨im2, vs2, p2⟩ := sq_get IB qb
      refine zip_begins2 (begins_sq ka a im.toArray) (begins_sq kb b im2.toArray) p1 p2 fun h' cz cI cO g1 g2 szs kps => wpAny_pyIter_zip cz ?_
      have I2 : Inv X pl σ HB { sB with heap := h' } := IB.kept (t' := sB.toks) kps
      exact ⟨sB.heap.objs.size + 4, [sB.heap.objs.size + 4, sB.heap.objs.size + 2, sB.heap.objs.size + 3, sB.heap.objs.size, sB.heap.objs.size + 1], _, _, HB, rfl, I2,
        turn_zip2 (ka := ka) (kb := kb) (zip_sep2 (fun c hc => by have := List.mem_singleton.mp hc; subst this; exact p1.lt) (fun c hc => by have := List.mem_singleton.mp hc; subst this; exact p2.lt)), ⟨cz, cI, ⟨_, _, cO⟩, is_it0 g1, is_it0 g2⟩, new5, q⟩
/-! ### the readings -/
def iEnumA (fs : FA) : FI := fun s h => (fs s h).bind fun vs h1 => match vs with
  | [v] => (match seqJ v h1 with
    | some j => .ok (.enum j) h1
    | none => .no)
  | _ => .no
theorem ei_enum {e : Expr} {fs : FA} {p pos tpos : Pos} {elts : List Expr} {kk : Nat} (hg : L2.Gl X "enumerate") (hm : X.mg "enumerate" = none) (ha : PA X [e] (rdA g W fs)) (hs : starEach [e] X.env = [(false, eval e X.env)] := by rfl) :
    PI X (.Tuple elts kk tpos) (.Call (.Name "enumerate" p) [e] [] pos) (rdI g W (iEnumA fs)) :=
  (pi_enum2 hg hm ha hs).imp fun σ H R ⟨ρ, s, h, rs, r, p⟩ => rdA.seq rs r .refl p fun vs xs ρ1 h1 H1 e1 r1 rx p1 => by
    split at p1
    · split at p1
      · rename_i j hj
        obtain ⟨y, rfl, ry⟩ := rx.one
        obtain ⟨b, a, ys, rfl, sj, sq⟩ := seqJ_ok (K := X.K) r1 ry hj
        exact ⟨b, a, ys, rfl, sq, p1.now e1 r1 _ (rj_enum sj)⟩
      · exact p1.elim
    · exact p1.elim
def iZipA2 (fs : FA) : FI := fun s h => (fs s h).bind fun vs h1 => match vs with
  | [v, w] => (match seqJ v h1, seqJ w h1 with
    | some j, some k => .ok (.zip j k) h1
    | _, _ => .no)
  | _ => .no
theorem ei_zip {e e2 : Expr} {fs : FA} {p pos tpos : Pos} {elts : List Expr} {kk : Nat} (hg : L2.Gl X "zip") (hm : X.mg "zip" = none) (ha : PA X [e, e2] (rdA g W fs)) (hs : starEach [e, e2] X.env = (false, eval e X.env) :: starEach [e2] X.env := by rfl) (hpl : (backTo pos (starEach [e2] X.env)).any (·.1) = false := by rfl) :
    PI X (.Tuple elts kk tpos) (.Call (.Name "zip" p) [e, e2] [] pos) (rdI g W (iZipA2 fs)) :=
  (pi_zip2 hg hm ha hs hpl).imp fun σ H R ⟨ρ, s, h, rs, r, p⟩ => rdA.seq rs r .refl p fun vs xs ρ1 h1 H1 e1 r1 rx p1 => by
    split at p1
    · split at p1
      · rename_i j k hj hk
        obtain ⟨y, y', rfl, ry, ry'⟩ := rx.two
        obtain ⟨b, a, ys, rfl, sj, sq⟩ := seqJ_ok (K := X.K) r1 ry hj
        obtain ⟨b', a', ys', rfl, sj', sq'⟩ := seqJ_ok (K := X.K) r1 ry' hk
        exact ⟨b, b', a, a', ys, ys', rfl, sq, sq', p1.now e1 r1 _ (rj_zip sj sj')⟩
      · exact p1.elim
    · exact p1.elim
def rngOk (i : Int) : Bool := Nat.blt i.natAbs 1000000000
theorem rngOk.lo {i : Int} (h : rngOk i = true) : -(2 ^ 62) ≤ i ∧ i < 2 ^ 62 := by
  have := Nat.blt_eq.mp h
  omega
def iRng1A (fs : FA) : FI := fun s h => (fs s h).bind fun vs h1 => match vs with
  | [.int j] => (match rngOk j with
    | true => .ok (.rng 0 j.toNat) h1
    | false => .no)
  | _ => .no
def iRng2A (fs : FA) : FI := fun s h => (fs s h).bind fun vs h1 => match vs with
  | [.int i, .int j] => (match rngOk i && rngOk j with
    | true => .ok (.rng i (j - i).toNat) h1
    | false => .no)
  | _ => .no
theorem ei_rng1 {tg a : Expr} {fs : FA} {p pos : Pos} (hg : L2.Gl X "range") (hm : X.mg "range" = none) (ha : PA X [a] (rdA g W fs)) (hs : starEach [a] X.env = [(false, eval a X.env)] := by rfl) :
    PI X tg (.Call (.Name "range" p) [a] [] pos) (rdI g W (iRng1A fs)) :=
  (pi_range1 hg hm ha hs).imp fun σ H R ⟨ρ, s, h, rs, r, p⟩ => rdA.seq rs r .refl p fun vs xs ρ1 h1 H1 e1 r1 rx p1 => by
    split at p1
    · split at p1
      · rename_i hj
        obtain ⟨y, rfl, ry⟩ := rx.one
        cases ry.int'
        exact ⟨_, rfl, (rngOk.lo hj).1, (rngOk.lo hj).2, p1.now e1 r1 _ rj_rng⟩
      · exact p1.elim
    · exact p1.elim
theorem ei_rng2 {tg a b : Expr} {fs : FA} {p pos : Pos} (hg : L2.Gl X "range") (hm : X.mg "range" = none) (ha : PA X [a, b] (rdA g W fs)) (hs : starEach [a, b] X.env = [(false, eval a X.env), (false, eval b X.env)] := by rfl) (hs2 : starEach [b] X.env = [(false, eval b X.env)] := by rfl) :
    PI X tg (.Call (.Name "range" p) [a, b] [] pos) (rdI g W (iRng2A fs)) :=
  (pi_range2 hg hm ha hs hs2).imp fun σ H R ⟨ρ, s, h, rs, r, p⟩ => rdA.seq rs r .refl p fun vs xs ρ1 h1 H1 e1 r1 rx p1 => by
    split at p1
    · split at p1
      · rename_i hj
        rw [Bool.and_eq_true] at hj
        obtain ⟨y, y', rfl, ry, ry'⟩ := rx.two
        cases ry.int'; cases ry'.int'
        exact ⟨_, _, rfl, ⟨(rngOk.lo hj.1).1, (rngOk.lo hj.1).2, (rngOk.lo hj.2).1, (rngOk.lo hj.2).2⟩, p1.now e1 r1 _ rj_rng⟩
      · exact p1.elim
    · exact p1.elim
end
end Ev

namespace Ev
open PySem PySem.Spec L2
open PyProof.Rows hiding St

/-! ### targets: names, tuples of these -/
inductive Tg where
  | nm (i : Nat) | tp (ts : List Tg)
mutual
def Tg.run : Tg → A → Sa → Option Sa
  | .nm i, x, s => some (s.set i (some x))
  | .tp ts, x, s => match x with
    | .tup xs => Tg.runs ts xs s
    | _ => none
def Tg.runs : List Tg → List A → Sa → Option Sa
  | [], [], s => some s
  | t :: ts, x :: xs, s => match t.run x s with
    | some s' => Tg.runs ts xs s'
    | none => none
  | _, _, _ => none
end
mutual
def Tg.slots : Tg → List Nat
  | .nm i => [i]
  | .tp ts => Tg.slotsL ts
def Tg.slotsL : List Tg → List Nat
  | [] => []
  | t :: ts => t.slots ++ Tg.slotsL ts
end
theorem wipe_set {σ : St} {i : Nat} {x : Option V} : ∀ {vs : List Nat}, i ∈ vs → wipe (σ.set i x) vs = wipe σ vs
  | [], h => by cases h
  | v :: vs, h => by
    unfold wipe
    by_cases e : i = v
    · subst e
      have : ∀ (us : List Nat) (τ : St), (wipe (τ.set i x) us).set i none = (wipe τ us).set i none := by
        intro us
        induction us with
        | nil => intro τ; show (τ.set i x).set i none = τ.set i none; rw [List.set_set]
        | cons u us ih =>
          intro τ
          show ((wipe (τ.set i x) us).set u none).set i none = ((wipe τ us).set u none).set i none
          by_cases q : u = i
          · subst q; rw [List.set_set, List.set_set]; exact ih τ
          · rw [List.set_comm _ _ q, List.set_comm _ _ q, ih τ]
      exact this vs σ
    · have : i ∈ vs := by
        exact (List.mem_cons.mp h).resolve_left e
      rw [wipe_set this]
theorem wipe_wipe (σ : St) (vs : List Nat) : ∀ us : List Nat, (∀ i ∈ us, i ∈ vs) → wipe (wipe σ us) vs = wipe σ vs
  | [], _ => rfl
  | u :: us, h => by
    show wipe ((wipe σ us).set u none) vs = _
    rw [wipe_set (h u List.mem_cons_self)]
    exact wipe_wipe σ vs us fun i hi => h i (List.mem_cons_of_mem _ hi)
def rdG (g : Gl) (t : Tg) : TG := fun v σ H Q => ∃ ρ n s x s', RS g ρ n H s σ ∧ RV g ρ n H x v ∧ t.run x s = some s' ∧ ∀ σ', RS g ρ n H s' σ' → (∀ vs, (∀ i ∈ t.slots, i ∈ vs) → wipe σ' vs = wipe σ vs) → Q σ' H
def rdGs (g : Gl) (ts : List Tg) : TGs := fun vs σ H Q => ∃ ρ n s xs s', RS g ρ n H s σ ∧ RVs g ρ n H xs vs ∧ Tg.runs ts xs s = some s' ∧ ∀ σ', RS g ρ n H s' σ' → (∀ vs, (∀ i ∈ Tg.slotsL ts, i ∈ vs) → wipe σ' vs = wipe σ vs) → Q σ' H
theorem _root_.L2.PG.imp {X : Cx} {e : Expr} {t t' : TG} (h : PG X e t) (f : ∀ v σ H Q, t' v σ H Q → t v σ H Q) : PG X e t' := ⟨fun pins s σ H v u Q I r hw => h.run pins s σ H v u Q I r (f _ _ _ _ hw)⟩
theorem _root_.L2.PGs.imp {X : Cx} {e : List Expr} {t t' : TGs} (h : PGs X e t) (f : ∀ v σ H Q, t' v σ H Q → t v σ H Q) : PGs X e t' := ⟨fun pins s σ H v u Q I r hw => h.run pins s σ H v u Q I r (f _ _ _ _ hw)⟩
section
variable {X : Cx} {g : Gl} {W : WX} {pos : Pos}
theorem eg_nm {i : Nat} {x : Str} (hN : X.N.Nodup) (hi : X.N[i]? = some x) (hx : Loc X.env.scope x) (hf : X.fn x = true ∨ X.env.scope.names.lookup x = some .local) : PG X (.Name x pos) (rdG g (.nm i)) :=
  (pg_name hN hi hx hf).imp fun v σ H Q ⟨ρ, n, s, x, s', rs, rv, e, q⟩ => by
    cases e
    refine q _ (rs.set rv i) fun vs h => wipe_set (h i ?_)
    show i ∈ [i]
    exact List.mem_singleton.mpr rfl
theorem eg_nil : PGs X [] (rdGs g []) := pgs_nil.imp fun v σ H Q ⟨ρ, n, s, xs, s', rs, rv, e, q⟩ => by
  cases xs with
  | nil =>
    cases e
    exact ⟨rv.unnil, q σ rs fun _ _ => rfl⟩
  | cons x xs => cases e
theorem eg_cons {e : Expr} {es : List Expr} {t : Tg} {ts : List Tg} (h1 : PG X e (rdG g t)) (h2 : PGs X es (rdGs g ts)) (ha : (assignEach (e :: es) X.env).map (·.2) = assign e X.env :: (assignEach es X.env).map (·.2) := by rfl) : PGs X (e :: es) (rdGs g (t :: ts)) :=
  (pgs_cons h1 h2 ha).imp fun v σ H Q ⟨ρ, n, s, xs, s', rs, rv, e, q⟩ => by
    cases xs with
    | nil => cases e
    | cons x xs =>
      obtain ⟨y, r, rfl, r1, r2⟩ := rv.uncons
      unfold Tg.runs at e
      split at e
      · rename_i s1 e1
        refine ⟨y, r, rfl, ρ, n, s, x, s1, rs, r1, e1, fun σ1 rs1 w1 => ⟨ρ, n, s1, xs, s', rs1, r2, e, fun σ2 rs2 w2 => q σ2 rs2 fun vs hv => ?_⟩⟩
        have hv' : ∀ i, i ∈ t.slots ∨ i ∈ Tg.slotsL ts → i ∈ vs := fun i hi => hv i (by
          show i ∈ t.slots ++ Tg.slotsL ts
          exact List.mem_append.mpr hi)
        exact (w2 vs fun i hi => hv' i (.inr hi)).trans (w1 vs fun i hi => hv' i (.inl hi))
      · cases e
theorem runs_len : ∀ {ts : List Tg} {xs : List A} {s s' : Sa}, Tg.runs ts xs s = some s' → xs.length = ts.length
  | [], [], _, _, _ => rfl
  | [], _ :: _, _, _, e => by unfold Tg.runs at e; cases e
  | _ :: _, [], _, _, e => by unfold Tg.runs at e; cases e
  | t :: ts, x :: xs, s, s', e => by
    unfold Tg.runs at e
    split at e
    · simp only [List.length_cons, runs_len e]
    · cases e
theorem eg_tup {es : List Expr} {k : Nat} {ts : List Tg} (hc : X.calm = true) (h : PGs X es (rdGs g ts)) (hn : (assignEach es X.env).length = ts.length := by rfl) (hst : (assignEach es X.env).findIdx? (·.1) = none := by rfl) : PG X (.Tuple es k pos) (rdG g (.tp ts)) :=
  (pg_tup hc h hn hst).imp fun v σ H Q ⟨ρ, n, s, x, s', rs, rv, e, q⟩ => by
    unfold Tg.run at e
    split at e
    · rename_i xs
      obtain ⟨a, ys, rfl, ha, rys⟩ := rv.tup'
      exact ⟨a, ys, rfl, .of ha, by rw [← rys.length]; exact runs_len e, ρ, n, s, xs, s', rs, rys, e, q⟩
    · cases e

/-! ### list comprehensions -/
def noEx {α : Type} : Rs α → Rs α
  | .ok a h => .ok a h
  | _ => .no
abbrev noW : WX := fun _ _ _ _ => False
def compN (j : Ja) (t : Tg) (ft : FT) (fe : FE) (s : Sa) : Nat → Nat → List A → Ah → Rs (List A)
  | 0, _, _, _ => .no
  | m + 1, i, acc, h => match j.nxt i h with
    | none => .no
    | some none => .ok acc.reverse h
    | some (some x) => match t.run x s with
      | none => .no
      | some s1 => (noEx (ft s1 h)).bind fun b h1 => match b with
        | false => compN j t ft fe s m (i + 1) acc h1
        | true => (noEx (fe s1 h1)).bind fun y h2 => match Nat.blt acc.length 16777216 with
          | true => compN j t ft fe s m (i + 1) (y :: acc) h2
          | false => .no
def fLc (fi : FI) (t : Tg) (ft : FT) (fe : FE) (vs : List Nat) (fuel : Nat) : FA := fun s h => (fi s h).bind fun j h1 => compN j t ft fe (wipeA s vs) fuel 0 [] h1
theorem Post.noEx {α β : Type} {g : Gl} {W : WX} {ρ ρc : Nat → Addr} {n nc : Nat} {H Hc : Hp} {σ σ' : St} {Qb : β → (Nat → Addr) → Ah → Hp → Prop} {Qa : α → (Nat → Addr) → Ah → Hp → Prop} {r : Rs α} {k : α → Ah → Rs β}
    (p : Post g W ρ n H σ Qb ((Ev.noEx r).bind k))
    (q : ∀ v ρ1 h1 H1, r = .ok v h1 → Ext ρc nc Hc ρ1 h1.n H1 → RH g ρ1 H1 h1 → Post g W ρ n H σ Qb (k v h1) → Qa v ρ1 h1 H1) : Post g noW ρc nc Hc σ' Qa r := by
  cases r with
  | ok v h1 => exact fun ρ1 H1 e rh => q v ρ1 h1 H1 rfl e rh p
  | ex c h1 => exact p.elim
  | no => exact p
def fYes : FT := fun _ h => .ok true h
theorem et_yes : PTs X [] (rdT g W fYes) := by
  have h : PTs X [] tYes := pts_nil
  obtain ⟨r⟩ := h
  exact ⟨fun pins s σ H Q I ⟨ρ, s', h, rs, rh, p⟩ => r pins s σ H Q I (p.now .refl rh)⟩
theorem et_one {c : Expr} {f : FT} (h : PT X c (rdT g W f)) : PTs X [c] (rdT g W f) := pts_one h
/-- the reading of a list comprehension -/
theorem lc_rd {fi : FI} {t : Tg} {ft : FT} {fe : FE} {vs : List Nat} {fuel : Nat} (hv : t.slots.all (vs.contains ·) = true) {σ : St} {H : Hp} {Q : VK} (q : rdL g W (fLc fi t ft fe vs fuel) σ H Q) :
    tLc (rdI g W fi) (rdG g t) (rdT g noW ft) (rdE g noW fe) vs σ H Q := by
  have hv : ∀ i ∈ t.slots, i ∈ vs := fun i hi => by
    have := List.all_eq_true.mp hv i hi
    exact List.contains_iff_mem.mp this
  obtain ⟨ρ, s, h, rs, rh, p⟩ := q
  refine ⟨ρ, s, h, rs, rh, Post.seq .refl p fun j ρ1 h1 H1 _ e1 r1 p1 J rj => ?_⟩
  intro D hD
  have rs1 : RS g ρ1 h1.n H1 (wipeA s vs) (wipe σ vs) := (rs.mono e1).wipe vs
  have hD0 : H D = none := e1.gn D hD
  refine ⟨fun i m Hc => ∃ ρ' h' acc ys, Ext ρ1 h1.n H1 ρ' h'.n Hc ∧ RH g ρ' Hc h' ∧ Hc D = some (.lst ys) ∧ (∀ k, k < h'.n → ρ' k ≠ D) ∧ RVs g ρ' h'.n Hc acc.reverse ys ∧
    Post g W ρ h.n H σ (LQ g H Q) (compN j t ft fe (wipeA s vs) m i acc h'), ⟨fuel, ρ1, h1, [], [], ext_new hD, r1.new hD, upd_same, fun k hk z => ?_, .nil, p1⟩, fun i m Hc w => ?_⟩
  · obtain ⟨o, ho, _⟩ := r1.there hk
    rw [z, hD] at ho; cases ho
  · obtain ⟨ρ', h', acc, ys, ec, rc, hDc, nD, rys, pc⟩ := w
    cases m with
    | zero => exact pc.elim
    | succ m =>
      unfold compN at pc
      split at pc
      · exact pc.elim
      · rename_i en
        exact .inl ⟨rj ec.to rc en, pc ρ' Hc (e1.trans ec) rc D ys hD0 hDc nD rys⟩
      · rename_i x en
        split at pc
        · exact pc.elim
        · rename_i s1 es
          obtain ⟨go, yl⟩ := rj ec.to rc en
          refine .inr ⟨go, fun Hn => ∃ m', m' < m + 1 ∧ ∃ ρ' h' acc ys, Ext ρ1 h1.n H1 ρ' h'.n Hn ∧ RH g ρ' Hn h' ∧ Hn D = some (.lst ys) ∧ (∀ k, k < h'.n → ρ' k ≠ D) ∧ RVs g ρ' h'.n Hn acc.reverse ys ∧
            Post g W ρ h.n H σ (LQ g H Q) (compN j t ft fe (wipeA s vs) m' (i + 1) acc h'), fun H' w => w, fun v H' hy => ?_⟩
          obtain ⟨e2, r2, rx⟩ := yl v H' hy
          have ec2 := ec.trans e2
          refine ⟨ρ', h'.n, wipeA s vs, x, s1, rs1.mono ec2, rx, es, fun σ2 rs2 hw => ⟨(hw vs hv).trans (wipe_wipe σ vs vs fun _ h => h), ρ', s1, h', rs2, r2, Post.noEx pc fun b ρ3 h3 H3 _ e3 r3 p3 => ?_⟩⟩
          have ec3 := ec2.trans e3
          have hD2 : H' D = some (.lst ys) := e2.fr D _ hDc nD
          have hD3 : H3 D = some (.lst ys) := e3.fr D _ hD2 nD
          have nD3 := e3.out hD2 nD
          have rys3 := (rys.mono e2).mono e3
          cases b with
          | false =>
            refine iteF ?_
            exact ⟨m, Nat.lt_succ_self _, ρ3, h3, acc, ys, ec3, r3, hD3, nD3, rys3, p3⟩
          | true =>
            refine iteT ?_
            refine ⟨ρ3, s1, h3, rs2.mono e3, r3, Post.noEx p3 fun y ρ4 h4 H4 _ e4 r4 p4 yv ry => ?_⟩
            have ec4 := ec3.trans e4
            have hD4 : H4 D = some (.lst ys) := e4.fr D _ hD3 nD3
            have nD4 := e4.out hD3 nD3
            have rys4 := rys3.mono e4
            split at p4
            · rename_i hl
              refine ⟨ys, hD4, ?_, m, Nat.lt_succ_self _, ρ4, h4, y :: acc, ys ++ [yv], ext_over ec4 hD, r4.own hD4 nD4, upd_same, nD4, ?_, p4⟩
              · rw [← rys.length, List.length_reverse]; exact lenLt hl
              · rw [List.reverse_cons]
                exact (rys4.append (.cons ry .nil)).monoT (tp_own hD4)
            · exact p4.elim
/-- the new list as an abstract object -/
def eOfL (f : FA) : FE := fun s h => (f s h).bind fun xs h1 => .ok (.ref h1.n) (h1.push (.lst xs))
theorem rdE_of_L {f : FA} {σ : St} {H : Hp} {Q : VK} (q : rdE g W (eOfL f) σ H Q) : rdL g W f σ H Q := by
  obtain ⟨ρ, s, h, rs, rh, p⟩ := q
  refine ⟨ρ, s, h, rs, rh, Post.seq .refl p fun xs ρ1 h1 H1 _ e1 r1 p1 D ys h0 hD nD rys => ?_⟩
  refine p1 (put ρ1 h1.n D) H1 (e1.adopt h0) (r1.adopt hD nD rys) _ ?_
  unfold RV
  exact ⟨Nat.lt_succ_self _, by rw [put_same]⟩
theorem el_lc {elt tg iter : Expr} {ifs : List Expr} {scope : Scope} {own : List (Str × Nat)} {fi : FI} {t : Tg} {ft : FT} {fe : FE} (fuel : Nat) (hc : X.calm = true) (hN : X.N.Nodup) (hi : PI X tg iter (rdI g W fi)) (ok : BlkOk X.N X.env.scope scope own) (hv : t.slots.all ((own.map (·.2)).contains ·) = true)
    (hb : ∀ (s : Shared) (H : Hp) (C : Addr) (cl : List (Str × Addr)) (fp : List Addr), PG (X.blk s H scope (compEnvC scope cl C X.env) fp) tg (rdG g t) ∧ PTs (X.blk s H scope (compEnvC scope cl C X.env) fp) ifs (rdT g noW ft) ∧ PE (X.blk s H scope (compEnvC scope cl C X.env) fp) elt (rdE g noW fe)) (hs : ∀ x, foldedSetIterable iter X.env x = pure x := by intro _; rfl) :
    PE X (.ListComp elt [⟨tg, iter, ifs, 0⟩] scope pos) (rdL g W (fLc fi t ft fe (own.map (·.2)) fuel)) :=
  (pe_lc hc hN hi ok (fun s H C cl fp => (hb s H C cl fp).1) (fun s H C cl fp => (hb s H C cl fp).2.1) (fun s H C cl fp => (hb s H C cl fp).2.2) hs).imp fun _ _ _ => lc_rd hv
theorem ee_L {e : Expr} {f : FA} (h : PE X e (rdL g W f)) : PE X e (rdE g W (eOfL f)) := h.imp fun _ _ _ => rdE_of_L
end
end Ev

namespace Ev
open PySem PySem.Spec L2
open PyProof.Rows hiding St

/-! ### statements -/
inductive RsS where
  | nx (s : Sa) (h : Ah) | rt (a : A) (h : Ah) | bk (s : Sa) (h : Ah) | ct (s : Sa) (h : Ah) | ex (c : Nat) (s : Sa) (h : Ah) | no
def Rs.toS {α : Type} (r : Rs α) (s : Sa) (k : α → Ah → RsS) : RsS := match r with
  | .ok a h => k a h
  | .ex c h => .ex c s h
  | .no => .no
abbrev FS := Sa → Ah → RsS
def PostS (g : Gl) (W : WX) (ρ : Nat → Addr) (n : Nat) (H : Hp) (D : Ends) : RsS → Prop
  | .nx s h' => ∀ ρ' H' σ', Ext ρ n H ρ' h'.n H' → RH g ρ' H' h' → RS g ρ' h'.n H' s σ' → D.nx σ' H'
  | .rt a h' => ∀ ρ' H' v, Ext ρ n H ρ' h'.n H' → RH g ρ' H' h' → RV g ρ' h'.n H' a v → D.rt v H'
  | .bk s h' => ∀ ρ' H' σ', Ext ρ n H ρ' h'.n H' → RH g ρ' H' h' → RS g ρ' h'.n H' s σ' → D.bk σ' H'
  | .ct s h' => ∀ ρ' H' σ', Ext ρ n H ρ' h'.n H' → RH g ρ' H' h' → RS g ρ' h'.n H' s σ' → D.ct σ' H'
  | .ex c s h' => ∀ ρ' H' σ', Ext ρ n H ρ' h'.n H' → RH g ρ' H' h' → RS g ρ' h'.n H' s σ' → W (.ref (g.ca c)) none σ' H'
  | .no => False
def rdS (g : Gl) (W : WX) (f : FS) : TS := fun D σ H => ∃ ρ s h, RS g ρ h.n H s σ ∧ RH g ρ H h ∧ PostS g W ρ h.n H D (f s h)
theorem PostS.seq {α : Type} {g : Gl} {W : WX} {ρ ρc : Nat → Addr} {n nc : Nat} {H Hc : Hp} {D : Ends} {σ : St} {s : Sa} {Qa : α → (Nat → Addr) → Ah → Hp → Prop} {r : Rs α} {k : α → Ah → RsS}
    (ec : Ext ρ n H ρc nc Hc) (rs : RS g ρc nc Hc s σ) (p : PostS g W ρ n H D (r.toS s k))
    (q : ∀ v ρ1 h1 H1, r = .ok v h1 → Ext ρc nc Hc ρ1 h1.n H1 → RH g ρ1 H1 h1 → PostS g W ρ n H D (k v h1) → Qa v ρ1 h1 H1) : Post g W ρc nc Hc σ Qa r := by
  cases r with
  | ok v h1 => exact fun ρ1 H1 e rh => q v ρ1 h1 H1 rfl e rh p
  | ex c h1 => exact fun ρ1 H1 e rh => p ρ1 H1 σ (ec.trans e) rh (rs.mono e)
  | no => exact p
section
variable {g : Gl} {W : WX} {ρ ρc : Nat → Addr} {n : Nat} {H Hc : Hp} {h : Ah} {σ : St} {D : Ends} {s : Sa}
/-- an expression first, then a statement's rest -/
theorem rdS.e {f : FE} {k : A → Ah → RsS} {Q : VK} (rs : RS g ρc h.n Hc s σ) (r : RH g ρc Hc h) (e : Ext ρ n H ρc h.n Hc) (p : PostS g W ρ n H D ((f s h).toS s k))
    (q : ∀ v x ρ1 h1 H1, Ext ρc h.n Hc ρ1 h1.n H1 → RH g ρ1 H1 h1 → RV g ρ1 h1.n H1 v x → PostS g W ρ n H D (k v h1) → Q x H1) : rdE g W f σ Hc Q :=
  ⟨ρc, s, h, rs, r, PostS.seq e rs p fun v ρ1 h1 H1 _ e1 r1 p1 x rx => q v x ρ1 h1 H1 e1 r1 rx p1⟩
theorem rdS.a {f : FA} {k : List A → Ah → RsS} {Q : List V → Hp → Prop} (rs : RS g ρc h.n Hc s σ) (r : RH g ρc Hc h) (e : Ext ρ n H ρc h.n Hc) (p : PostS g W ρ n H D ((f s h).toS s k))
    (q : ∀ v x ρ1 h1 H1, Ext ρc h.n Hc ρ1 h1.n H1 → RH g ρ1 H1 h1 → RVs g ρ1 h1.n H1 v x → PostS g W ρ n H D (k v h1) → Q x H1) : rdA g W f σ Hc Q :=
  ⟨ρc, s, h, rs, r, PostS.seq e rs p fun v ρ1 h1 H1 _ e1 r1 p1 x rx => q v x ρ1 h1 H1 e1 r1 rx p1⟩
theorem rdS.t {f : FT} {k : Bool → Ah → RsS} {Q : Bool → Hp → Prop} (rs : RS g ρc h.n Hc s σ) (r : RH g ρc Hc h) (e : Ext ρ n H ρc h.n Hc) (p : PostS g W ρ n H D ((f s h).toS s k))
    (q : ∀ v ρ1 h1 H1, Ext ρc h.n Hc ρ1 h1.n H1 → RH g ρ1 H1 h1 → PostS g W ρ n H D (k v h1) → Q v H1) : rdT g W f σ Hc Q :=
  ⟨ρc, s, h, rs, r, PostS.seq e rs p fun v ρ1 h1 H1 _ e1 r1 p1 => q v ρ1 h1 H1 e1 r1 p1⟩
/-- the base moved -/
theorem PostS.base {r : RsS} (e : Ext ρ n H ρc h.n Hc) (p : PostS g W ρ n H D r) : PostS g W ρc h.n Hc D r := by
  cases r with
  | nx s h' => exact fun ρ' H' σ' e' => p ρ' H' σ' (e.trans e')
  | rt a h' => exact fun ρ' H' σ' e' => p ρ' H' σ' (e.trans e')
  | bk s h' => exact fun ρ' H' σ' e' => p ρ' H' σ' (e.trans e')
  | ct s h' => exact fun ρ' H' σ' e' => p ρ' H' σ' (e.trans e')
  | ex c s h' => exact fun ρ' H' σ' e' => p ρ' H' σ' (e.trans e')
  | no => exact p
end
def RsS.seq (r : RsS) (k : FS) : RsS := match r with
  | .nx s h => k s h
  | .rt a h => .rt a h
  | .bk s h => .bk s h
  | .ct s h => .ct s h
  | .ex c s h => .ex c s h
  | .no => .no
theorem PostS.then {g : Gl} {W : WX} {ρ : Nat → Addr} {n : Nat} {H : Hp} {D D' : Ends} {r : RsS} {k : FS} (p : PostS g W ρ n H D (r.seq k)) (hrt : ∀ v H, D.rt v H → D'.rt v H) (hbk : ∀ v H, D.bk v H → D'.bk v H) (hct : ∀ v H, D.ct v H → D'.ct v H)
    (q : ∀ s h' ρ' H' σ', Ext ρ n H ρ' h'.n H' → RH g ρ' H' h' → RS g ρ' h'.n H' s σ' → PostS g W ρ n H D (k s h') → D'.nx σ' H') : PostS g W ρ n H D' r := by
  cases r with
  | nx s h' => exact fun ρ' H' σ' e r rs => q s h' ρ' H' σ' e r rs p
  | rt a h' => exact fun ρ' H' σ' e r rs => hrt _ _ (p ρ' H' σ' e r rs)
  | bk s h' => exact fun ρ' H' σ' e r rs => hbk _ _ (p ρ' H' σ' e r rs)
  | ct s h' => exact fun ρ' H' σ' e r rs => hct _ _ (p ρ' H' σ' e r rs)
  | ex c s h' => exact p
  | no => exact p
section
variable {X : Cx} {g : Gl} {W : WX} {pos : Pos}
def fNext : FS := fun s h => .nx s h
def fSeq (f k : FS) : FS := fun s h => (f s h).seq k
theorem ess_nil : PSs X [] (rdS g W fNext) := pss_nil.imp fun D σ H ⟨ρ, s, h, rs, r, p⟩ => p ρ H σ .refl r rs
theorem ess_cons {st : Stmt} {rest : List Stmt} {f k : FS} (h1 : PS X st (rdS g W f)) (h2 : PSs X rest (rdS g W k)) : PSs X (st :: rest) (rdS g W (fSeq f k)) :=
  (pss_cons h1 h2).imp fun D σ H ⟨ρ, s, h, rs, r, p⟩ => ⟨ρ, s, h, rs, r, PostS.then p (fun _ _ h => h) (fun _ _ h => h) (fun _ _ h => h) fun s' h' ρ' H' σ' e r rs p' => ⟨ρ', s', h', rs, r, p'.base e⟩⟩
theorem ess_one {st : Stmt} {f : FS} (h1 : PS X st (rdS g W f)) : PSs X [st] (rdS g W f) := pss_one h1
theorem es_pass : PS X (.Pass pos) (rdS g W fNext) := ps_pass.imp fun D σ H ⟨ρ, s, h, rs, r, p⟩ => p ρ H σ .refl r rs
def fBrk : FS := fun s h => .bk s h
theorem es_break : PS X (.Break pos) (rdS g W fBrk) := ps_break.imp fun D σ H ⟨ρ, s, h, rs, r, p⟩ => p ρ H σ .refl r rs
def fCnt : FS := fun s h => .ct s h
theorem es_continue : PS X (.Continue pos) (rdS g W fCnt) := ps_continue.imp fun D σ H ⟨ρ, s, h, rs, r, p⟩ => p ρ H σ .refl r rs
def fRet (f : FE) : FS := fun s h => (f s h).toS s fun v h1 => .rt v h1
theorem es_ret {e : Expr} {f : FE} (he : PE X e (rdE g W f)) : PS X (.Return (some e) pos) (rdS g W (fRet f)) := (ps_ret he).imp fun D σ H ⟨ρ, s, h, rs, r, p⟩ => rdS.e rs r .refl p fun v x ρ1 h1 H1 e1 r1 rx p1 => p1 ρ1 H1 x e1 r1 rx
def fRetN : FS := fun s h => .rt .non h
theorem es_retN : PS X (.Return none pos) (rdS g W fRetN) := ps_retN.imp fun D σ H ⟨ρ, s, h, rs, r, p⟩ => p ρ H .non .refl r rv_non
def fDrop (f : FE) : FS := fun s h => (f s h).toS s fun _ h1 => .nx s h1
theorem es_expr {e : Expr} {f : FE} (he : PE X e (rdE g W f)) (hs : swapsWith e none pos.line X.env = pure false := by rfl) : PS X (.Expr e pos) (rdS g W (fDrop f)) := (ps_expr he hs).imp fun D σ H ⟨ρ, s, h, rs, r, p⟩ => rdS.e rs r .refl p fun v x ρ1 h1 H1 e1 r1 rx p1 => p1 ρ1 H1 σ e1 r1 (rs.mono e1)
def fIfS (c : FT) (a b : FS) : FS := fun s h => (c s h).toS s fun k h1 => match k with
  | true => a s h1
  | false => b s h1
theorem es_if {c : Expr} {a b : List Stmt} {fc : FT} {fa fb : FS} (hc : PT X c (rdT g W fc)) (ha : PSs X a (rdS g W fa)) (hb : PSs X b (rdS g W fb)) : PS X (.If c a b pos) (rdS g W (fIfS fc fa fb)) :=
  (ps_if hc ha hb).imp fun D σ H ⟨ρ, s, h, rs, r, p⟩ => rdS.t rs r .refl p fun k ρ1 h1 H1 e1 r1 p1 => by
    cases k with
    | true => exact iteT ⟨ρ1, s, h1, rs.mono e1, r1, p1.base e1⟩
    | false => exact iteF ⟨ρ1, s, h1, rs.mono e1, r1, p1.base e1⟩
/-! ### stores -/
def fSet (i : Nat) (f : FE) : FS := fun s h => (f s h).toS s fun v h1 => .nx (s.set i (some v)) h1
theorem es_set {i : Nat} {x : Str} {e : Expr} {f : FE} {pos' : Pos} (hN : X.N.Nodup) (hi : X.N[i]? = some x) (hx : Loc X.env.scope x) (he : PE X e (rdE g W f)) (hs : swapsWith e (some (.Name x pos')) pos.line X.env = pure false := by rfl) (hf : X.fn x = true ∨ X.env.scope.names.lookup x = some .local := by first | exact .inl rfl | exact .inr rfl | assumption) :
    PS X (.Assign [.Name x pos'] e pos) (rdS g W (fSet i f)) := (ps_set hN hi hx he hs hf).imp fun D σ H ⟨ρ, s, h, rs, r, p⟩ => rdS.e rs r .refl p fun v x ρ1 h1 H1 e1 r1 rx p1 => p1 ρ1 H1 _ e1 r1 ((rs.mono e1).set rx i)
/-- name = [comprehension] on one line, a local name -/
theorem es_setLc {i : Nat} {y : Str} {py spos : Pos} {elt tg iter : Expr} {ifs : List Expr} {scope : Scope} {own : List (Str × Nat)} {fi : FI} {t : Tg} {ft : FT} {fe : FE} (fuel : Nat) (hc : X.calm = true) (hN : X.N.Nodup) (hy : X.N[i]? = some y) (hyl : X.env.scope.names.lookup y = some .local)
    (hsw : swapsWith (.ListComp elt [⟨tg, iter, ifs, 0⟩] scope pos) (some (.Name y py)) spos.line X.env = pure true) (hi : PI X tg iter (rdI g W fi)) (ok : BlkOk X.N X.env.scope scope own) (hv : t.slots.all ((own.map (·.2)).contains ·) = true)
    (hb : ∀ (s : Shared) (H : Hp) (C : Addr) (cl : List (Str × Addr)) (fp : List Addr), PG (X.blk s H scope (compEnvC scope cl C X.env) fp) tg (rdG g t) ∧ PTs (X.blk s H scope (compEnvC scope cl C X.env) fp) ifs (rdT g noW ft) ∧ PE (X.blk s H scope (compEnvC scope cl C X.env) fp) elt (rdE g noW fe)) (hs : ∀ x, foldedSetIterable iter X.env x = pure x := by intro _; rfl) :
    PS X (.Assign [.Name y py] (.ListComp elt [⟨tg, iter, ifs, 0⟩] scope pos) spos) (rdS g W (fSet i (eOfL (fLc fi t ft fe (own.map (·.2)) fuel)))) :=
  (ps_setLc hc hN hy hyl hsw hi ok (fun s H C cl fp => (hb s H C cl fp).1) (fun s H C cl fp => (hb s H C cl fp).2.1) (fun s H C cl fp => (hb s H C cl fp).2.2) hs).imp fun D σ H ⟨ρ, s, h, rs, r, p⟩ => by
    have q : rdE g W (eOfL (fLc fi t ft fe (own.map (·.2)) fuel)) σ H fun x H1 => gName i x σ H1 D.nx := rdS.e rs r .refl p fun v x ρ1 h1 H1 e1 r1 rx p1 => p1 ρ1 H1 _ e1 r1 ((rs.mono e1).set rx i)
    exact lc_rd hv (rdE_of_L q)
def fAsg (t : Tg) (f : FE) : FS := fun s h => (f s h).toS s fun v h1 => match t.run v s with
  | some s' => .nx s' h1
  | none => .no
theorem es_asg {tg e : Expr} {f : FE} {t : Tg} (he : PE X e (rdE g W f)) (hg : PG X tg (rdG g t)) (hs : swapsWithSole [tg] e pos.line X.env = pure false := by rfl) (hw : swappedStores [tg] e X.env = pure none := by rfl)
    (h1 : (assignEach [tg] X.env).map (·.2) = [assign tg X.env] := by rfl) : PS X (.Assign [tg] e pos) (rdS g W (fAsg t f)) :=
  (ps_asg he hg hs hw h1).imp fun D σ H ⟨ρ, s, h, rs, r, p⟩ => rdS.e rs r .refl p fun v x ρ1 h1 H1 e1 r1 rx p1 => by
    split at p1
    · rename_i s' es
      exact ⟨ρ1, h1.n, s, v, s', rs.mono e1, rx, es, fun σ' rs' _ => p1 ρ1 H1 σ' e1 r1 rs'⟩
    · exact p1.elim
def fPar (i j : Nat) (fs : FA) : FS := fun s h => (fs s h).toS s fun vs h1 => match vs with
  | [v, w] => .nx ((s.set i (some v)).set j (some w)) h1
  | _ => .no
theorem es_par {i j : Nat} {x y : Str} {a b : Expr} {fs : FA} {px py pt : Pos} {kt k2 pt2} (hc : X.calm = true) (hN : X.N.Nodup) (hi : X.N[i]? = some x) (hj : X.N[j]? = some y) (hij : i ≠ j)
    (hx : X.env.scope.names.lookup x = some .local) (hy : X.env.scope.names.lookup y = some .local) (ha : PA X [a, b] (rdA g W fs)) (hw : swappedStores [.Tuple [.Name x px, .Name y py] kt pt] (.Tuple [a, b] k2 pt2) X.env = pure (some [x, y])) (hs : swapsWithSole [.Tuple [.Name x px, .Name y py] kt pt] (.Tuple [a, b] k2 pt2) pos.line X.env = pure false := by rfl) :
    PS X (.Assign [.Tuple [.Name x px, .Name y py] kt pt] (.Tuple [a, b] k2 pt2) pos) (rdS g W (fPar i j fs)) :=
  (ps_par hc hN hi hj hij hx hy ha hw hs).imp fun D σ H ⟨ρ, s, h, rs, r, p⟩ => rdS.a rs r .refl p fun vs xs ρ1 h1 H1 e1 r1 rx p1 => by
    split at p1
    · obtain ⟨v, w, rfl, rv, rw'⟩ := rx.two
      exact ⟨v, w, rfl, p1 ρ1 H1 _ e1 r1 (((rs.mono e1).set rv i).set rw' j)⟩
    · exact p1.elim
def fAug (i : Nat) (gop : G2) (f : FE) : FS := fun s h => match s[i]? with
  | some (some x) => (f s h).toS s fun y h1 => (gop x y h1).toS s fun z h2 => .nx (s.set i (some z)) h2
  | _ => .no
def AugOk (g : Gl) (r : TIp) (gop : G2) : Prop := ∀ ⦃W : WX⦄ ⦃ρ ρc : Nat → Addr⦄ ⦃n : Nat⦄ ⦃H Hc : Hp⦄ ⦃h : Ah⦄ ⦃σ : St⦄ ⦃Q : VK⦄ ⦃v w : A⦄ ⦃x y : V⦄,
  Ext ρ n H ρc h.n Hc → RH g ρc Hc h → RV g ρc h.n Hc v x → RV g ρc h.n Hc w y → Post g W ρ n H σ (VQ g Q) (gop v w h) → r x y Hc Q
theorem es_aug {i : Nat} {x : Str} {e : Expr} {f : FE} {op : Operator} {ti : TIp} {gop : G2} {pos' : Pos} (hN : X.N.Nodup) (hi : X.N[i]? = some x) (hx : Loc X.env.scope x) (he : PE X e (rdE g W f)) (ho : PIp X op ti) (ok : AugOk g ti gop) (hf : X.fn x = true ∨ X.env.scope.names.lookup x = some .local := by first | exact .inl rfl | exact .inr rfl | assumption) :
    PS X (.AugAssign (.Name x pos') op e pos) (rdS g W (fAug i gop f)) := (ps_aug hN hi hx he ho hf).imp fun D σ H ⟨ρ, s, h, rs, r, p⟩ => by
  unfold fAug at p
  split at p
  · rename_i a ea
    obtain ⟨v, hv, rv⟩ := rs.get ea
    refine ⟨v, hv, rdS.e rs r .refl p fun w y ρ1 h1 H1 e1 r1 ry p1 => ?_⟩
    refine ok (W := W) (σ := σ) (.refl (ρ := ρ1) (n := h1.n) (H := H1)) r1 (rv.mono e1) ry (PostS.seq e1 (rs.mono e1) p1 fun z ρ2 h2 H2 _ e2 r2 p2 zv rz => ?_)
    exact p2 ρ2 H2 _ (e1.trans e2) r2 (((rs.mono e1).mono e2).set rz i)
  · exact p.elim
/-! ### for, while -/
def forN (j : Ja) (t : Tg) (fb : FS) : Nat → Nat → Sa → Ah → RsS
  | 0, _, _, _ => .no
  | m + 1, i, s, h => match j.nxt i h with
    | none => .no
    | some none => .nx s h
    | some (some x) => match t.run x s with
      | none => .no
      | some s1 => match fb s1 h with
        | .nx s2 h2 => forN j t fb m (i + 1) s2 h2
        | .ct s2 h2 => forN j t fb m (i + 1) s2 h2
        | .bk s2 h2 => .nx s2 h2
        | .rt a h2 => .rt a h2
        | .ex c s2 h2 => .ex c s2 h2
        | .no => .no
def fFor (fi : FI) (t : Tg) (fb : FS) (fuel : Nat) : FS := fun s h => (fi s h).toS s fun j h1 => forN j t fb fuel 0 s h1
theorem es_for {tg iter : Expr} {body : List Stmt} {fi : FI} {t : Tg} {fb : FS} (fuel : Nat) (hp : PassesOwn (model X.prog X.w) X.A X.env X.xe) (hc : X.calm = true) (hi : PI X tg iter (rdI g W fi)) (hg : PG X tg (rdG g t)) (hb : PSs X body (rdS g W fb))
    (hs : ∀ x, foldedSetIterable iter X.env x = pure x := by intro _; rfl) : PS X (.For tg iter body [] pos) (rdS g W (fFor fi t fb fuel)) :=
  (ps_for hp hc hi hg hb hs).imp fun D σ H ⟨ρ, s, h, rs, r, p⟩ => by
    refine ⟨ρ, s, h, rs, r, PostS.seq .refl rs p fun j ρ1 h1 H1 _ e1 r1 p1 J rj => ?_⟩
    refine ⟨fun i m σ Hc => ∃ ρ' s' h', Ext ρ1 h1.n H1 ρ' h'.n Hc ∧ RH g ρ' Hc h' ∧ RS g ρ' h'.n Hc s' σ ∧ PostS g W ρ h.n H D (forN j t fb m i s' h'), ⟨fuel, ρ1, s, h1, .refl, r1, rs.mono e1, p1⟩, fun i m σ Hc w => ?_⟩
    obtain ⟨ρ', s', h', ec, rc, rs', pc⟩ := w
    cases m with
    | zero => exact pc.elim
    | succ m =>
      unfold forN at pc
      split at pc
      · exact pc.elim
      · rename_i en
        exact .inl ⟨rj ec.to rc en, pc ρ' Hc σ (e1.trans ec) rc rs'⟩
      · rename_i x en
        split at pc
        · exact pc.elim
        · rename_i s1 es
          obtain ⟨go, yl⟩ := rj ec.to rc en
          refine .inr ⟨go, fun σ Hc => ∃ m', m' < m + 1 ∧ ∃ ρ' s' h', Ext ρ1 h1.n H1 ρ' h'.n Hc ∧ RH g ρ' Hc h' ∧ RS g ρ' h'.n Hc s' σ ∧ PostS g W ρ h.n H D (forN j t fb m' (i + 1) s' h'), fun _ _ w => w, fun v H' hy => ?_⟩
          obtain ⟨e2, r2, rx⟩ := yl v H' hy
          refine ⟨ρ', h'.n, s', x, s1, rs'.mono e2, rx, es, fun σ2 rs2 _ => ⟨ρ', s1, h', rs2, r2, ?_⟩⟩
          have ee := e1.trans (ec.trans e2)
          cases q : fb s1 h' with
          | nx s2 h2 => rw [q] at pc; exact fun ρ3 H3 σ3 e3 r3 rs3 => ⟨m, Nat.lt_succ_self _, ρ3, s2, h2, (ec.trans e2).trans e3, r3, rs3, pc⟩
          | ct s2 h2 => rw [q] at pc; exact fun ρ3 H3 σ3 e3 r3 rs3 => ⟨m, Nat.lt_succ_self _, ρ3, s2, h2, (ec.trans e2).trans e3, r3, rs3, pc⟩
          | bk s2 h2 => rw [q] at pc; exact fun ρ3 H3 σ3 e3 r3 rs3 => pc ρ3 H3 σ3 (ee.trans e3) r3 rs3
          | rt a h2 => rw [q] at pc; exact fun ρ3 H3 σ3 e3 r3 rs3 => pc ρ3 H3 σ3 (ee.trans e3) r3 rs3
          | ex c s2 h2 => rw [q] at pc; exact fun ρ3 H3 σ3 e3 r3 rs3 => pc ρ3 H3 σ3 (ee.trans e3) r3 rs3
          | no => rw [q] at pc; exact pc
def whileN (fc : FT) (fb : FS) : Nat → Sa → Ah → RsS
  | 0, _, _ => .no
  | m + 1, s, h => (fc s h).toS s fun k h1 => match k with
    | false => .nx s h1
    | true => match fb s h1 with
      | .nx s2 h2 => whileN fc fb m s2 h2
      | .ct s2 h2 => whileN fc fb m s2 h2
      | .bk s2 h2 => .nx s2 h2
      | .rt a h2 => .rt a h2
      | .ex c s2 h2 => .ex c s2 h2
      | .no => .no
theorem es_while {c : Expr} {body : List Stmt} {fc : FT} {fb : FS} (fuel : Nat) (hp : PassesOwn (model X.prog X.w) X.A X.env X.xe) (hc : PT X c (rdT g W fc)) (hb : PSs X body (rdS g W fb)) : PS X (.While c body [] pos) (rdS g W (whileN fc fb fuel)) :=
  (ps_while hp hc hb).imp fun D σ H ⟨ρ, s, h, rs, r, p⟩ => by
    refine ⟨fun m σ Hc => ∃ ρ' s' h', Ext ρ h.n H ρ' h'.n Hc ∧ RH g ρ' Hc h' ∧ RS g ρ' h'.n Hc s' σ ∧ PostS g W ρ h.n H D (whileN fc fb m s' h'), ⟨fuel, ρ, s, h, .refl, r, rs, p⟩, fun m σ Hc w => ?_⟩
    obtain ⟨ρ', s', h', ec, rc, rs', pc⟩ := w
    cases m with
    | zero => exact pc.elim
    | succ m =>
      unfold whileN at pc
      refine rdS.t rs' rc ec pc fun k ρ1 h1 H1 e1 r1 p1 => ?_
      cases k with
      | false => exact iteF (p1 ρ1 H1 σ (ec.trans e1) r1 (rs'.mono e1))
      | true =>
        refine iteT ⟨fun σ Hc => ∃ m', m' < m + 1 ∧ ∃ ρ' s' h', Ext ρ h.n H ρ' h'.n Hc ∧ RH g ρ' Hc h' ∧ RS g ρ' h'.n Hc s' σ ∧ PostS g W ρ h.n H D (whileN fc fb m' s' h'), fun _ _ w => w, ρ1, s', h1, rs'.mono e1, r1, ?_⟩
        have ee := ec.trans e1
        cases q : fb s' h1 with
        | nx s2 h2 => simp only [q] at p1; exact fun ρ3 H3 σ3 e3 r3 rs3 => ⟨m, Nat.lt_succ_self _, ρ3, s2, h2, ee.trans e3, r3, rs3, p1⟩
        | ct s2 h2 => simp only [q] at p1; exact fun ρ3 H3 σ3 e3 r3 rs3 => ⟨m, Nat.lt_succ_self _, ρ3, s2, h2, ee.trans e3, r3, rs3, p1⟩
        | bk s2 h2 => simp only [q] at p1; exact fun ρ3 H3 σ3 e3 r3 rs3 => p1 ρ3 H3 σ3 (ee.trans e3) r3 rs3
        | rt a h2 => simp only [q] at p1; exact fun ρ3 H3 σ3 e3 r3 rs3 => p1 ρ3 H3 σ3 (ee.trans e3) r3 rs3
        | ex c s2 h2 => simp only [q] at p1; exact fun ρ3 H3 σ3 e3 r3 rs3 => p1 ρ3 H3 σ3 (ee.trans e3) r3 rs3
        | no => simp only [q] at p1; exact p1
end
end Ev

namespace Ev
open PySem PySem.Spec L2
open PyProof.Rows hiding St

/-! ### calls of the text's own defs -/
def spA (g : Gl) (np : Nat) (C : GL) : Sp := fun vs H Q E => ∃ ρ h as, RH g ρ H h ∧ RVs g ρ h.n H as vs ∧ vs.length = np ∧ Post g (fun c d _ H => E c d H) ρ h.n H [] (VQ g Q) (C as h)
structure Dn (K : PySem.W.Frag) (mg : Str → Option Value) (g : Gl) (i : Nat) (x : Str) (st : Stmt) (ps : List Str) : Prop where
  F : Fun K x x st (g.fa i) (g.fd i)
  m : mg x = some (.ref (g.fa i))
  b : Binds K (g.fd i) ps []
def fCallU (np : Nat) (C : GL) (fs : FA) : FE := fun s h => (fs s h).bind fun vs h1 => match Nat.beq vs.length np with
  | true => C vs h1
  | false => .no
theorem Post.base {α : Type} {g : Gl} {W : WX} {ρ ρc : Nat → Addr} {n : Nat} {H Hc : Hp} {h : Ah} {σ : St} {Q : α → (Nat → Addr) → Ah → Hp → Prop} {r : Rs α} (e : Ext ρ n H ρc h.n Hc) (p : Post g W ρ n H σ Q r) : Post g W ρc h.n Hc σ Q r := by
  cases r with
  | ok v h1 => exact fun ρ1 H1 e1 => p ρ1 H1 (e.trans e1)
  | ex c h1 => exact fun ρ1 H1 e1 => p ρ1 H1 (e.trans e1)
  | no => exact p
theorem Post.toE {α : Type} {g : Gl} {W : WX} {ρ : Nat → Addr} {n : Nat} {H : Hp} {σ : St} {Q : α → (Nat → Addr) → Ah → Hp → Prop} {r : Rs α} (p : Post g W ρ n H σ Q r) : Post g (fun c d _ H => WE W σ c d H) ρ n H [] Q r := by
  cases r with
  | ok v h1 => exact p
  | ex c h1 => exact p
  | no => exact p
theorem rdU {g : Gl} {W : WX} {np : Nat} {C : GL} {fs : FA} {σ : St} {H : Hp} {Q : VK} (q : rdE g W (fCallU np C fs) σ H Q) : tCallS (spA g np C) (WE W) (rdA g W fs) σ H Q := by
  obtain ⟨ρ, s, h, rs, rh, p⟩ := q
  refine rdA.seq rs rh .refl p fun vs xs ρ1 h1 H1 e1 r1 rx p1 => ?_
  split at p1
  · rename_i hl
    exact ⟨ρ1, h1, vs, r1, rx, by rw [← rx.length]; exact Nat.eq_of_beq_eq_true hl, (p1.base e1).toE⟩
  · exact p1.elim
section
variable {X : Cx} {g : Gl} {W : WX} {pos : Pos} {k j i np : Nat} {x : Str} {st : Stmt} {ps : List Str} {C : GL} {e : Expr} {es : List Expr} {fs : FA} {p : Pos}
theorem ee_call (D : Dn X.K X.mg g i x st ps) (F : FnOk X.prog X.w X.K X.mg X.base (L2.CX X.prog X.w) k (g.fa i) (g.fd i) ps (spA g np C)) (hr : Room k X.A) (hg : L2.Gl X x) (tk : ∀ σ, PassesAt (L2.CX X.prog X.w) X σ (WE W σ)) (ha : PA X (e :: es) (rdA g W fs)) (hdb : (x == ("__debug__" : Str)) = false := by decide) (he : starEach (e :: es) X.env = (false, eval e X.env) :: starEach es X.env := by rfl) (hpl : (backTo pos (starEach es X.env)).any (·.1) = false := by rfl) :
    PE X (.Call (.Name x p) (e :: es) [] pos) (rdE g W (fCallU np C fs)) :=
  (pe_callS F hr hg D.m D.F.kp D.b tk ha hdb he hpl).imp fun _ _ _ => rdU
theorem ee_call0 (D : Dn X.K X.mg g i x st ps) (F : FnOk X.prog X.w X.K X.mg X.base (L2.CX X.prog X.w) k (g.fa i) (g.fd i) ps (spA g np C)) (hr : Room k X.A) (hg : L2.Gl X x) (tk : ∀ σ, PassesAt (L2.CX X.prog X.w) X σ (WE W σ)) (hdb : (x == ("__debug__" : Str)) = false := by decide) : PE X (.Call (.Name x p) [] [] pos) (rdE g W (fCallU np C fNil)) := by
  refine ⟨fun pl s σ H Q I h => ?_⟩
  obtain ⟨ρ, s', h', rs, rh, q⟩ := rdU h
  refine wpAny_Call_Name_kw (ld_glob I hg D.m ?_ hdb)
  exact PySem.W.callWith_K0 I.kIn D.F.kp (run_fnS (E := WE W) (us := []) F hr D.b (tk σ) I .nil (q.now .refl rh [] .nil))
end
/-! with keywords -/
def pickL {α : Type} (arr : List Nat) (xs : List α) : List α := match arr with
  | [] => []
  | i :: r => match xs[i]? with
    | some x => x :: pickL r xs
    | none => pickL r xs
theorem Vals.pick {xs : List V} {us : List Value} (r : Vals xs us) : ∀ arr : List Nat, Vals (pickL arr xs) (pickL arr us)
  | [] => .nil
  | i :: a => by
    unfold pickL
    cases e : xs[i]? with
    | some x =>
      obtain ⟨u, h1, h2⟩ := r.get e
      rw [h1]
      exact .cons h2 (Vals.pick r a)
    | none =>
      rw [r.none_of e]
      exact Vals.pick r a
theorem RVs.pick {g : Gl} {ρ : Nat → Addr} {n : Nat} {H : Hp} {xs : List A} {us : List V} (r : RVs g ρ n H xs us) : ∀ arr : List Nat, RVs g ρ n H (pickL arr xs) (pickL arr us)
  | [] => .nil
  | i :: a => by
    unfold pickL
    cases e : xs[i]? with
    | some x =>
      obtain ⟨u, h1, h2⟩ := r.get e
      rw [h1]
      exact .cons h2 (RVs.pick r a)
    | none =>
      rw [r.at_none e]
      exact RVs.pick r a
/-- how a call with keywords binds: nu positional values, then the keywords' ones -/
structure Kb (K : PySem.W.Frag) (fd : FuncData) (ps ks : List Str) (nu : Nat) (arr : List Nat) : Prop where
  to : ∀ (s : Shared) (us ws : List Value), K.In s.heap → us.length = nu → ws.length = ks.length → BindsTo s fd ⟨us, ks.zip ws⟩ (ps.zip (pickL arr (us ++ ws)))
theorem kb_of {K : PySem.W.Frag} {x qual : Str} {st : Stmt} {f : Addr} {fd : FuncData} {ps ks : List Str} {nu : Nat} {arr : List Nat} (F : Fun K x qual st f fd)
    (h : ∀ (kV doc pm : Value) (an : Option Addr) (cdv ct : Value) (us ws : List Value), us.length = nu → ws.length = ks.length → bindArgs (PySem.W.fnOf x qual (defArgs st) (defBody st) (defScope st) .none kV doc pm an cdv ct) ⟨us, ks.zip ws⟩ = pure (ps.zip (pickL arr (us ++ ws)))) : Kb K fd ps ks nu arr := by
  obtain ⟨_, _, kV, doc, pm, an, cdv, ct, _, rfl, _, _⟩ := F.ex
  exact ⟨fun s us ws _ h1 h2 => BindsTo.of_eq (h kV doc pm an cdv ct us ws h1 h2)⟩
def fCallK (np nu nk : Nat) (arr : List Nat) (C : GL) (fs fk : FA) : FE := fun s h => (fs s h).bind fun us h1 => (fk s h1).bind fun ws h2 => match Nat.beq us.length nu && (Nat.beq ws.length nk && Nat.beq (pickL arr (us ++ ws)).length np) with
  | true => C (pickL arr (us ++ ws)) h2
  | false => .no
theorem rdK {g : Gl} {W : WX} {np nu nk : Nat} {arr : List Nat} {C : GL} {fs fk : FA} {σ : St} {H : Hp} {Q : VK} (q : rdE g W (fCallK np nu nk arr C fs fk) σ H Q) :
    rdA g W fs σ H fun vs H1 => rdA g W fk σ H1 fun zs H2 => vs.length = nu ∧ zs.length = nk ∧ spA g np C (pickL arr (vs ++ zs)) H2 Q (WE W σ) := by
  obtain ⟨ρ, s, h, rs, rh, p⟩ := q
  refine rdA.seq rs rh .refl p fun vs xs ρ1 h1 H1 e1 r1 rx p1 => rdA.seq (rs.mono e1) r1 e1 p1 fun ws ys ρ2 h2 H2 e2 r2 ry p2 => ?_
  split at p2
  · rename_i hl
    simp only [Bool.and_eq_true, Nat.beq_eq] at hl
    have e := e1.trans e2
    have rr := ((rx.mono e2).append ry).pick arr
    exact ⟨by rw [← rx.length]; exact hl.1, by rw [← ry.length]; exact hl.2.1, ρ2, h2, _, r2, rr, by rw [← rr.length]; exact hl.2.2, (p2.base e).toE⟩
  · exact p2.elim
section
variable {X : Cx} {g : Gl} {W : WX} {pos : Pos} {k j i nu np nk : Nat} {x : Str} {st : Stmt} {ps ks : List Str} {arr : List Nat} {C : GL} {e : Expr} {es : List Expr} {kws : List Keyword} {fs fk : FA} {p kpos : Pos} {nm : Option Str} {f : FE}
theorem ek_nil : PK X [] (rdA g W fNil) := ⟨fun pos pins s σ H Q I ⟨ρ, s', h, rs, r, p⟩ => pk_nil.run pos pins s σ H Q I (p.now .refl r [] .nil)⟩
theorem ek_cons (ha : PE X e (rdE g W f)) (hr : PK X kws (rdA g W fs)) : PK X (⟨nm, e, kpos⟩ :: kws) (rdA g W (fCons f fs)) :=
  ⟨fun pos pins s σ H Q I ⟨ρ, s', h, rs, r, p⟩ => (pk_cons ha hr).run pos pins s σ H Q I (rdE.seq (σ' := σ) rs r .refl p fun v x ρ1 h1 H1 e1 r1 rx p1 =>
    rdA.seq (rs.mono e1) r1 e1 p1 fun vs xs ρ2 h2 H2 e2 r2 rxs p2 => p2.now (e1.trans e2) r2 _ (.cons (rx.mono e2) rxs))⟩
theorem run_kw {pins : List (Addr × Obj)} {σ : St} {H : Hp} {s : Shared} {Q : VK} {us ws : List Value} {vs zs : List V} {f : Addr} {fd : FuncData} {sp : Sp} (F : FnOk X.prog X.w X.K X.mg X.base (L2.CX X.prog X.w) k f fd ps sp) (hr : Room k X.A) (hb : Kb X.K fd ps ks nu arr) (tk : ∀ σ, PassesAt (L2.CX X.prog X.w) X σ (WE W σ))
    (I : Inv X pins σ H s) (r : Vals vs us) (rz : Vals zs ws) (l1 : vs.length = nu) (l2 : zs.length = ks.length) (h : sp (pickL arr (vs ++ zs)) H Q (WE W σ)) : wpAny (model X.prog X.w) X.A (call (.ref f) us (ks.zip ws)) (EP X pins σ Q) X.xe s := by
  have r2 := Vals.pick (r.append rz) arr
  refine wpAny_call (codeAny_mono (F.run X.A X.stack s H ⟨us, ks.zip ws⟩ (pickL arr (us ++ ws)) (pickL arr (vs ++ zs)) Q (WE W σ) hr I.env0 (hb.to s us ws I.kIn (by rw [← r.length]; exact l1) (by rw [← rz.length]; exact l2)) r2 h) fun r s' hq => ?_)
  cases r with
  | error e => exact tk σ pins H s e s' I hq
  | ok fl =>
    cases fl with
    | ret u => exact I.after hq
    | next => exact False.elim hq
    | brk => exact False.elim hq
    | cont => exact False.elim hq
theorem ee_callK (D : Dn X.K X.mg g i x st ps) (hnk : ks.length = nk) (hb : Kb X.K (g.fd i) ps ks nu arr) (F : FnOk X.prog X.w X.K X.mg X.base (L2.CX X.prog X.w) k (g.fa i) (g.fd i) ps (spA g np C)) (hr : Room k X.A) (hg : L2.Gl X x) (tk : ∀ σ, PassesAt (L2.CX X.prog X.w) X σ (WE W σ)) (ha : PA X (e :: es) (rdA g W fs)) (hkw : PK X kws (rdA g W fk))
    (hall : (backToKw pos (keywordEach kws X.env)).all (·.1.isSome) = true := by rfl) (hks : (backToKw pos (keywordEach kws X.env)).filterMap (·.1) = ks := by rfl) (hdb : (x == ("__debug__" : Str)) = false := by decide) (he : starEach (e :: es) X.env = (false, eval e X.env) :: starEach es X.env := by rfl) (hpl : ((backTo pos (starEach (e :: es) X.env)).any (·.1) || (backToKw pos (keywordEach kws X.env)).any (·.1.isNone)) = false := by rfl) :
    PE X (.Call (.Name x p) (e :: es) kws pos) (rdE g W (fCallK np nu nk arr C fs fk)) := by
  subst hnk
  refine ⟨fun pl s σ H Q I h => ?_⟩
  have h := rdK h
  refine wpAny_Call_Name_kw (ld_glob I hg D.m ?_ hdb)
  refine PySem.W.callWith_KW (h₀ := X.base) I.ok.mod.kin D.F.kp hall (thn (ha.run pos pl s σ H _ I h) fun us s1 ⟨vs, H1, I1, r, q⟩ => ?_) hpl he
  refine thn (hkw.run pos pl s1 σ H1 _ I1 q) fun ws s2 ⟨zs, H2, I2, rz, len1, len2, q2⟩ => ⟨I2.kIn, ?_⟩
  rw [hks]
  exact run_kw F hr hb tk I2 r rz len1 len2 q2
theorem ee_callK0 (D : Dn X.K X.mg g i x st ps) (hnk : ks.length = nk) (hb : Kb X.K (g.fd i) ps ks 0 arr) (F : FnOk X.prog X.w X.K X.mg X.base (L2.CX X.prog X.w) k (g.fa i) (g.fd i) ps (spA g np C)) (hr : Room k X.A) (hg : L2.Gl X x) (tk : ∀ σ, PassesAt (L2.CX X.prog X.w) X σ (WE W σ)) (hkw : PK X kws (rdA g W fk))
    (hall : (backToKw pos (keywordEach kws X.env)).all (·.1.isSome) = true := by rfl) (hks : (backToKw pos (keywordEach kws X.env)).filterMap (·.1) = ks := by rfl) (hdb : (x == ("__debug__" : Str)) = false := by decide) (hpl : ((backTo pos (starEach [] X.env)).any (·.1) || (backToKw pos (keywordEach kws X.env)).any (·.1.isNone)) = false := by rfl) :
    PE X (.Call (.Name x p) [] kws pos) (rdE g W (fCallK np 0 nk arr C fNil fk)) := by
  subst hnk
  refine ⟨fun pl s σ H Q I h => ?_⟩
  obtain ⟨ρ, s', h', rs, rh, q⟩ := rdK h
  have h := q.now .refl rh [] .nil
  refine wpAny_Call_Name_kw (ld_glob I hg D.m ?_ hdb)
  refine PySem.W.callWith_KW0 (h₀ := X.base) I.ok.mod.kin D.F.kp hall ?_ hpl
  refine thn (hkw.run pos pl s σ H _ I h) fun ws s2 ⟨zs, H2, I2, rz, len1, len2, q2⟩ => ⟨I2.kIn, ?_⟩
  rw [hks]
  exact run_kw (us := []) (vs := []) F hr hb tk I2 .nil rz rfl len2 q2
end

/-! ### a def keeps its promise -/
def startA (m : Nat) (as : List A) : Sa := as.map some ++ List.replicate (m - as.length) none
def runF (m : Nat) (body : FS) : GL := fun as h => match body (startA m as) h with
  | .rt a h' => .ok a h'
  | .nx _ h' => .ok .non h'
  | .ex c _ h' => .ex c h'
  | _ => .no
theorem rs_nones {g : Gl} {ρ : Nat → Addr} {n : Nat} {H : Hp} : ∀ k, RS g ρ n H (List.replicate k none) (List.replicate k none)
  | 0 => rfl
  | k + 1 => ⟨none, _, rfl, rs_nones k⟩
theorem rs_start {g : Gl} {ρ : Nat → Addr} {n : Nat} {H : Hp} {k : Nat} : ∀ {as : List A} {vs : List V}, RVs g ρ n H as vs → RS g ρ n H (as.map some ++ List.replicate k none) (vs.map some ++ List.replicate k none)
  | [], _, r => by rw [r.unnil]; exact rs_nones k
  | a :: as, _, r => by
    obtain ⟨y, r', rfl, r1, r2⟩ := r.uncons
    exact ⟨y, _, rfl, r1, rs_start r2⟩
theorem ok_fn {P : Program} {w : World} {K : PySem.W.Frag} {mg : Str → Option Value} {base : Heap} {g : Gl} {x qual : Str} {st : Stmt} {f : Addr} {fd : FuncData} {N ps : List Str} {k : Nat} {body : FS} (F : Fun K x qual st f fd) (S : FnScope N ps (defScope st))
    (hb : ∀ (cdv : Value) (A : Around) (outer : List Env) (s : Shared) (H : Hp) (E : XK), Room k (A.deeper (envOfC qual (defScope st) s.heap.objs.size f cdv)) → PSs (cxOf (L2.CX P w) P w K mg base N qual (defScope st) f cdv A outer s H E) (defBody st) (rdS g (fun cls d _ H => E cls d H) body)) :
    FnOk P w K mg base (L2.CX P w) (k + 1) f fd ps (spA g ps.length (runF N.length body)) := by
  refine F.okX S (fun vs H Q E h => ?_) (fun cdv A outer s H vs Q E hr h => ?_)
  · obtain ⟨_, _, _, _, _, l, _⟩ := h
    exact l
  · refine ⟨_, hb cdv A outer s H E hr, ?_⟩
    obtain ⟨ρ, h, as, rh, rvs, l, p⟩ := h
    refine ⟨ρ, startA N.length as, h, ?_, rh, ?_⟩
    · show RS g ρ h.n H (as.map some ++ List.replicate (N.length - as.length) none) (vs.map some ++ List.replicate (N.length - vs.length) none)
      rw [rvs.length]
      exact rs_start rvs
    · unfold runF at p
      cases q : body (startA N.length as) h with
      | rt a h' => simp only [q] at p; exact fun ρ1 H1 v e r rv => p ρ1 H1 e r v rv
      | nx s' h' => simp only [q] at p; exact fun ρ1 H1 v e r _ => p ρ1 H1 e r .non rv_non
      | ex c s' h' => simp only [q] at p; exact fun ρ1 H1 v e r _ => p ρ1 H1 e r
      | bk s' h' => simp only [q] at p; exact p.elim
      | ct s' h' => simp only [q] at p; exact p.elim
      | no => simp only [q] at p; exact p.elim
theorem ok_no {P : Program} {w : World} {K : PySem.W.Frag} {mg : Str → Option Value} {base : Heap} {g : Gl} {f : Addr} {fd : FuncData} {ps : List Str} {k : Nat} : FnOk P w K mg base (L2.CX P w) k f fd ps (spA g ps.length fun _ _ => .no) where
  len := fun vs H Q E ⟨_, _, _, _, _, l, _⟩ => l
  run := fun A outer s H args us vs Q E _ _ _ _ ⟨_, _, _, _, _, _, p⟩ => p.elim

/-! ### raise -/
structure Ce (K : PySem.W.Frag) (mg : Str → Option Value) (g : Gl) (j : Nat) (x : Str) (newId : String) (bmB : List Value) : Prop where
  m : mg x = some (.ref (g.ca j))
  q : PySem.W.excIn K (g.ca j) bmB newId = true
  k : PySem.W.keepIn K (.ref (g.ca j)) = true
  h1 : PySem.W.subIn K (.ref (g.ca j)) (.type "BaseException") = some true
  h2 : PySem.W.typeIn K (.ref (g.ca j)) = some (.type "type")
section
variable {X : Cx} {g : Gl} {W : WX} {pos p : Pos} {j : Nat} {x : Str} {B newId initId : String} {bmB : List Value}
theorem pmk_own0 (F : ExcBaseFacts B newId initId bmB) (C : Ce X.K X.mg g j x newId bmB) (hg : L2.Gl X x) (hdb : (x == ("__debug__" : Str)) = false := by decide) :
    PMk X (.Call (.Name x p) [] [] pos) (fun σ H Q => Q (.ref (g.ca j)) none H) := by
  intro pins s σ H Q I h
  refine wpAny_Call_Name_kw (ld_glob I hg C.m ?_ hdb)
  refine PySem.W.callWith_K0 I.kIn C.k ?_
  show wpAny _ _ (call (.ref (g.ca j)) []) _ _ _
  obtain ⟨bm, N, nm, qn, bs, hdct, sn, sub, ab, col, dd, k0, k1, k2, k3, k5, mN, hC, hN, hni, T⟩ := exc_obj I.kIn C.q
  obtain ⟨hp, gg, d, t, os⟩ := s
  refine wpAny_call_exc_subT F T hC hN hni (fun h' e hm => ?_)
  exact mk_of I hm (raises_own C.h1 C.h2) h (I.hok.gone hm.new)
def fRaise (j : Nat) : FS := fun s h => .ex j s h
theorem es_raise {pos' : Pos} (F : ExcBaseFacts B newId initId bmB) (C : Ce X.K X.mg g j x newId bmB) (hc : X.calm = true) (hg : L2.Gl X x) (tk : Takes X W) (hdb : (x == ("__debug__" : Str)) = false := by decide) :
    PS X (.Raise (some (.Call (.Name x p) [] [] pos)) none pos') (rdS g W (fRaise j)) := (ps_raise hc tk (pmk_own0 F C hg hdb)).imp fun D σ H ⟨ρ, s, h, rs, r, p⟩ => p ρ H σ .refl r rs
end
end Ev

namespace Ev
open PySem PySem.Spec L2
open PyProof.Rows hiding St

/-! ### isinstance -/
def subT (a b : Tn) : Bool := match a, b with
  | .int, .int => true
  | .bool, .int => true
  | .bool, .bool => true
  | .str, .str => true
  | .tuple, .tuple => true
  | .list, .list => true
  | .dict, .dict => true
  | .none, .none => true
  | _, _ => false
theorem kit_sub (a b : Tn) : kitB a.name b.name = some (subT a b) := by
  cases a <;> cases b <;> decide +kernel
def tyA (v : A) (h : Ah) : Option Tn := match v with
  | .non => some .none
  | .bl _ => some .bool
  | .int _ => some .int
  | .str _ => some .str
  | .tup _ => some .tuple
  | .ref k => (match h.get k with
    | some (.lst _) => some .list
    | _ => none)
  | _ => none
theorem tyA_ok {g : Gl} {K : PySem.W.Frag} {ρ : Nat → Addr} {H : Hp} {h : Ah} {v : A} {x : V} {t : Tn} (r : RH g ρ H h) (rx : RV g ρ h.n H v x) (e : tyA v h = some t) : TyX K H x (.type t.name) := by
  unfold tyA at e
  split at e
  · cases e; cases rx.non'; exact .base .non
  · cases e; cases rx.bl'; exact .base (.bl _)
  · cases e; cases rx.int'; exact .base (.int _)
  · cases e; cases rx.str'; exact .base (.str _)
  · cases e
    obtain ⟨p, ys, rfl, hp, _⟩ := rx.tup'
    exact .base (.tup hp)
  · split at e
    · rename_i xs hk
      cases e
      obtain ⟨_, rfl⟩ := rx.ref'
      obtain ⟨ys, hy, _⟩ := r.lst hk
      exact .base (.lst hy)
    · cases e
  · cases e
def tysOf : List A → Option (List Tn)
  | [] => some []
  | .ty t :: r => (match tysOf r with
    | some ts => some (t :: ts)
    | none => none)
  | _ => none
theorem tysOf_ok {g : Gl} {ρ : Nat → Addr} {n : Nat} {H : Hp} : ∀ {xs : List A} {ys : List V} {ts : List Tn}, tysOf xs = some ts → RVs g ρ n H xs ys → Paired ClsV ys (ts.map fun t => .type t.name)
  | [], _, _, e, r => by cases e; rw [r.unnil]; exact .nil
  | x :: xs, _, _, e, r => by
    obtain ⟨y, ys, rfl, r1, r2⟩ := r.uncons
    unfold tysOf at e
    split at e
    · rename_i q; cases q
    · rename_i t xs' q
      cases q
      split at e
      · rename_i ts ht
        cases e
        rw [r1.ty']
        exact .cons (.ty _) (tysOf_ok ht r2)
      · cases e
    · cases e
theorem kitAny_sub {K : PySem.W.Frag} (a : Tn) : ∀ ts : List Tn, PySem.W.kitAny K (.type a.name) (ts.map fun t => .type t.name) = some (ts.any (subT a))
  | [] => kitAny_nil
  | t :: ts => by
    rw [List.any_cons]
    refine kitAny_cons (kit_ty (kit_sub a t)) (fun h => ?_) (fun h => ?_)
    · rw [h, Bool.false_or]; exact kitAny_sub a ts
    · rw [h, Bool.true_or]
def cIsi : GL := fun vs h => match vs with
  | [v, .ty T] => (match tyA v h with
    | some t => .ok (.bl (subT t T)) h
    | none => .no)
  | [v, .tup ts] => (match tyA v h, tysOf ts with
    | some t, some Ts => .ok (.bl (Ts.any (subT t))) h
    | _, _ => .no)
  | _ => .no
def rIsiA (K : PySem.W.Frag) : List V → Hp → VK → Prop := fun xs H Q => rIsi K xs H Q ∨ rIsiT K xs H Q
theorem cr_isi {X : Cx} : CallR X (.builtin "isinstance") (rIsiA X.K) := call_isi.or call_isiT
theorem co_isi {g : Gl} {K : PySem.W.Frag} : CallOk g (rIsiA K) cIsi := by
  intro W ρ ρc n H Hc h σ Q vs xs e r rx p
  unfold cIsi at p
  split at p
  · split at p
    · rename_i t ht
      obtain ⟨y, y', rfl, ry, ry'⟩ := rx.two
      cases ry'.ty'
      exact .inl ⟨y, _, _, _, _, rfl, .ty _, tyA_ok r ry ht, kit_ty (kit_sub _ _), p.now e r _ rv_bl⟩
    · exact p.elim
  · split at p
    · rename_i t Ts ht hT
      obtain ⟨y, y', rfl, ry, ry'⟩ := rx.two
      obtain ⟨q, ys, rfl, hq, rys⟩ := ry'.tup'
      exact .inr ⟨y, q, ys, _, _, _, rfl, hq, tysOf_ok hT rys, tyA_ok r ry ht, kitAny_sub _ _, p.now e r _ rv_bl⟩
    · exact p.elim
  · exact p.elim
section
variable {X : Cx} {g : Gl} {W : WX} {pos p : Pos}
/-- a built-in type by its name -/
theorem ee_ty {x : Str} (t : Tn) (hg : L2.Gl X x) (hm : X.mg x = none) (hv : bootBuiltins x = some (.type t.name)) (hn : x ≠ "__name__" := by decide) (hd : (x == ("__debug__" : Str)) = false := by decide) : PE X (.Name x pos) (rdE g W (fCon (.ty t))) :=
  ee_con (pe_bltn (v := .ty t.name) hg hm hv rfl hn hd) fun _ _ _ => rv_ty
/-- a built-in function, a built-in type called -/
theorem ee_callB {id : String} {x : Str} {e : Expr} {es : List Expr} {fs : FA} {r : List V → Hp → VK → Prop} {cop : GL} (hc : CallR X (.builtin id) r) (ok : CallOk g r cop) (hg : L2.Gl X x) (hm : X.mg x = none) (hv : bootBuiltins x = some (.builtin id)) (ha : PA X (e :: es) (rdA g W fs)) (hn : x ≠ "__name__" := by decide) (hdb : (x == ("__debug__" : Str)) = false := by decide)
    (he : starEach (e :: es) X.env = (false, eval e X.env) :: starEach es X.env := by rfl) (hpl : (backTo pos (starEach es X.env)).any (·.1) = false := by rfl) : PE X (.Call (.Name x p) (e :: es) [] pos) (rdE g W (fCall cop fs)) :=
  (pe_callB hc hg hm hv ha hn hdb he hpl).imp fun _ _ _ => rdCB ok
theorem ee_callTy {T : String} {x : Str} {e : Expr} {es : List Expr} {fs : FA} {r : List V → Hp → VK → Prop} {cop : GL} (hc : CallR X (.type T) r) (ok : CallOk g r cop) (hg : L2.Gl X x) (hm : X.mg x = none) (hv : bootBuiltins x = some (.type T)) (ha : PA X (e :: es) (rdA g W fs)) (hn : x ≠ "__name__" := by decide) (hdb : (x == ("__debug__" : Str)) = false := by decide)
    (he : starEach (e :: es) X.env = (false, eval e X.env) :: starEach es X.env := by rfl) (hpl : (backTo pos (starEach es X.env)).any (·.1) = false := by rfl) : PE X (.Call (.Name x p) (e :: es) [] pos) (rdE g W (fCall cop fs)) :=
  (pe_callTy hc hg hm hv ha hn hdb he hpl).imp fun _ _ _ => rdCB ok
/-- .. of a comprehension -/
theorem ee_callBL {id : String} {x : Str} {e : Expr} {f : FA} {r : List V → Hp → VK → Prop} {lop : List A → Ah → Rs A} (hc : CallR X (.builtin id) r) (ok : ListOk g X.K r lop) (hg : L2.Gl X x) (hm : X.mg x = none) (hv : bootBuiltins x = some (.builtin id)) (ha : PE X e (rdL g W f)) (hst : starEach [e] X.env = (false, eval e X.env) :: starEach [] X.env) (hn : x ≠ "__name__" := by decide) (hdb : (x == ("__debug__" : Str)) = false := by decide)
    (he : starEach [e] X.env = (false, eval e X.env) :: starEach [] X.env := by rfl) (hpl : (backTo pos (starEach [] X.env)).any (·.1) = false := by rfl) : PE X (.Call (.Name x p) [e] [] pos) (rdE g W (fCallL lop f)) :=
  (pe_callB hc hg hm hv (pa_cons ha pa_nil hst) hn hdb he hpl).imp fun _ _ _ => rdCBL ok
theorem ee_callTyL {T : String} {x : Str} {e : Expr} {f : FA} {r : List V → Hp → VK → Prop} {lop : List A → Ah → Rs A} (hc : CallR X (.type T) r) (ok : ListOk g X.K r lop) (hg : L2.Gl X x) (hm : X.mg x = none) (hv : bootBuiltins x = some (.type T)) (ha : PE X e (rdL g W f)) (hst : starEach [e] X.env = (false, eval e X.env) :: starEach [] X.env) (hn : x ≠ "__name__" := by decide) (hdb : (x == ("__debug__" : Str)) = false := by decide)
    (he : starEach [e] X.env = (false, eval e X.env) :: starEach [] X.env := by rfl) (hpl : (backTo pos (starEach [] X.env)).any (·.1) = false := by rfl) : PE X (.Call (.Name x p) [e] [] pos) (rdE g W (fCallL lop f)) :=
  (pe_callTy hc hg hm hv (pa_cons ha pa_nil hst) hn hdb he hpl).imp fun _ _ _ => rdCBL ok
end

/-! ### try -/
mutual
def nexc : A → Bool
  | .exc _ => false
  | .tup xs => nexcs xs
  | .non | .bl _ | .int _ | .str _ | .ref _ | .ty _ | .fn _ | .opq => true
def nexcs : List A → Bool
  | [] => true
  | x :: xs => nexc x && nexcs xs
end
def nexcD : List (NestedKey × A) → Bool
  | [] => true
  | x :: xs => nexc x.2 && nexcD xs
def cleanO : List O → Bool
  | [] => true
  | .lst xs :: r => nexcs xs && cleanO r
  | .dct _ kvs :: r => nexcD kvs && cleanO r
def cleanS : Sa → Bool
  | [] => true
  | none :: s => cleanS s
  | some a :: s => nexc a && cleanS s
/-- other exceptions held -/
structure Sw (g g' : Gl) : Prop where
  fa : g'.fa = g.fa
  w : g'.w = g.w
section
variable {g g' : Gl} {ρ : Nat → Addr} {n : Nat} {H : Hp}
mutual
theorem RV.sw (e : Sw g g') : ∀ {a : A} {v : V}, nexc a = true → RV g ρ n H a v → RV g' ρ n H a v
  | .non, _, _, h => by unfold RV at h ⊢; exact h
  | .bl _, _, _, h => by unfold RV at h ⊢; exact h
  | .int _, _, _, h => by unfold RV at h ⊢; exact h
  | .str _, _, _, h => by unfold RV at h ⊢; exact h
  | .ty _, _, _, h => by unfold RV at h ⊢; exact h
  | .fn _, _, _, h => by unfold RV at h ⊢; rw [e.fa]; exact h
  | .opq, _, _, h => by unfold RV at h ⊢; exact h
  | .exc _, _, c, h => by unfold nexc at c; cases c
  | .ref k, _, _, h => by unfold RV at h ⊢; exact h
  | .tup xs, _, c, h => by
    unfold nexc at c
    unfold RV at h ⊢
    obtain ⟨p, ys, h1, h2, h3⟩ := h
    exact ⟨p, ys, h1, h2, RVs.sw e c h3⟩
theorem RVs.sw (e : Sw g g') : ∀ {xs : List A} {ys : List V}, nexcs xs = true → RVs g ρ n H xs ys → RVs g' ρ n H xs ys
  | [], _, _, h => by unfold RVs at h ⊢; exact h
  | x :: xs, _, c, h => by
    unfold nexcs at c
    rw [Bool.and_eq_true] at c
    unfold RVs at h ⊢
    obtain ⟨y, r, h1, h2, h3⟩ := h
    exact ⟨y, r, h1, RV.sw e c.1 h2, RVs.sw e c.2 h3⟩
end
theorem RS.sw (e : Sw g g') : ∀ {s : Sa} {σ : St}, cleanS s = true → RS g ρ n H s σ → RS g' ρ n H s σ
  | [], _, _, h => h
  | none :: s, _, c, ⟨v, r, h1, h2⟩ => ⟨v, r, h1, RS.sw e c h2⟩
  | some a :: s, _, c, ⟨v, r, h1, h2, h3⟩ => by
    unfold cleanS at c
    rw [Bool.and_eq_true] at c
    exact ⟨v, r, h1, h2.sw e c.1, RS.sw e c.2 h3⟩
theorem clean_get : ∀ {os : List O} {m k : Nat} {xs : List A}, cleanO os = true → getO os m k = some (.lst xs) → nexcs xs = true
  | [], _, _, _, _, h => by unfold getO at h; cases h
  | .lst ys :: r, m, k, xs, c, h => by
    unfold cleanO at c
    rw [Bool.and_eq_true] at c
    unfold getO at h
    split at h
    · cases h; exact c.1
    · exact clean_get c.2 h
  | .dct _ kvs :: r, m, k, xs, c, h => by
    unfold cleanO at c
    rw [Bool.and_eq_true] at c
    unfold getO at h
    split at h
    · cases h
    · exact clean_get c.2 h
theorem clean_getD : ∀ {os : List O} {m k : Nat} {fz : Bool} {kvs : List (NestedKey × A)}, cleanO os = true → getO os m k = some (.dct fz kvs) → nexcD kvs = true
  | [], _, _, _, _, _, h => by unfold getO at h; cases h
  | .lst ys :: r, m, k, _, _, c, h => by
    unfold cleanO at c
    rw [Bool.and_eq_true] at c
    unfold getO at h
    split at h
    · cases h
    · exact clean_getD c.2 h
  | .dct _ kvs :: r, m, k, _, xs, c, h => by
    unfold cleanO at c
    rw [Bool.and_eq_true] at c
    unfold getO at h
    split at h
    · cases h; exact c.1
    · exact clean_getD c.2 h
mutual
theorem nexc_kA : ∀ k : NestedKey, nexc (kA k) = true
  | .none => by unfold kA nexc; rfl
  | .num _ => by unfold kA nexc; rfl
  | .text _ => by unfold kA nexc; rfl
  | .tup ks => by unfold kA nexc; exact nexcs_kA ks
theorem nexcs_kA : ∀ ks : List NestedKey, nexcs (kA.kAs ks) = true
  | [] => by unfold kA.kAs nexcs; rfl
  | k :: ks => by unfold kA.kAs nexcs; rw [nexc_kA k, nexcs_kA ks]; rfl
end
theorem rel_sw (e : Sw g g') : ∀ {kvs : List (NestedKey × A)} {vs : List (NestedKey × Value × Value)}, nexcD kvs = true → Paired (RE g ρ n H) kvs vs → Paired (RE g' ρ n H) kvs vs
  | [], _, _, .nil => .nil
  | x :: _, _, c, .cons r t => by
    unfold nexcD at c
    rw [Bool.and_eq_true] at c
    obtain ⟨h1, ⟨v, h2, h3⟩, u, h4, h5⟩ := r
    exact .cons ⟨h1, ⟨v, h2, h3.sw e (nexc_kA _)⟩, u, h4, h5.sw e c.1⟩ (rel_sw e c.2 t)
theorem RH.sw {h : Ah} (e : Sw g g') (c : cleanO h.os = true) (r : RH g ρ H h) : RH g' ρ H h := by
  refine ⟨r.len, r.inj, fun k o ek => ?_⟩
  have := r.obj k o ek
  cases o with
  | lst xs =>
    obtain ⟨ys, h1, h2⟩ := this
    exact ⟨ys, h1, h2.sw e (clean_get c ek)⟩
  | dct fz kvs =>
    obtain ⟨vs, h1, h2⟩ := this
    exact ⟨vs, ⟨h1.sys, rel_sw e (clean_getD c ek) h1.rel, h1.uni, h1.dup, h1.len⟩, by rw [e.w]; exact h2⟩
end
def fTryAs (nE i : Nat) (sub : Nat → Bool) (fsu fb : FS) : FS := fun s h => match fb s h with
  | .ex j s' h' => (match Nat.blt j nE with
    | false => .no
    | true => (match sub j with
      | false => .ex j s' h'
      | true => (match cleanS s' && cleanO h'.os with
        | false => .no
        | true => (match fsu (s'.set i (some (.exc j))) h' with
          | .rt c h2 => (match nexc c && cleanO h2.os with
            | true => .rt c h2
            | false => .no)
          | .nx s2 h2 => (match cleanS (s2.set i none) && cleanO h2.os with
            | true => .nx (s2.set i none) h2
            | false => .no)
          | _ => .no))))
  | .nx s h => .nx s h
  | .rt a h => .rt a h
  | .bk s h => .bk s h
  | .ct s h => .ct s h
  | .no => .no
section
variable {X : Cx} {g : Gl} {W : WX} {x n : Str} {i jc nE : Nat} {body suite : List Stmt} {b₀ : Stmt} {np pos pos' : Pos} {sub : Nat → Bool} {fsu fb : FS}
theorem es_tryAs (hs : X.stack = X.env :: X.outer) (hf : X.env.frame = some X.env.locals) (hN : X.N.Nodup) (hi : X.N[i]? = some n) (hln : X.env.kindOf n = some .local) (hc : Names X x (.ref (g.ca jc))) (tk : Takes X W)
    (hsub : ∀ j, j < nE → PySem.W.exmOne X.K (.ref (g.ca j)) (.ref (g.ca jc)) = some (sub j))
    (hb : ∀ (W : WX) (pn : List (Addr × Obj)) (xe : Value → Shared → Prop), Takes (X.tr pn xe) W → PassesOwn (model X.prog X.w) X.A X.env xe → PSs (X.tr pn xe) body (rdS g W fb))
    (hsu : ∀ (a : Addr) (oe : Obj) (j : Nat) (pn : List (Addr × Obj)), j < nE → Zc (.ref (g.ca j)) none oe → (∃ vs, oe.data = .fields vs) → PSs (X.suite a ((a, oe) :: pn)) (b₀ :: suite) (rdS { g with ea := a, ej := j } noW fsu)) :
    PS X (.Try body [.ExceptHandler (some (.Name x np)) (some n) (b₀ :: suite) pos'] [] [] pos) (rdS g W (fTryAs nE i sub fsu fb)) :=
  (ps_try_as (ts := fun a cls d D σ H => ∃ j, cls = .ref (g.ca j) ∧ d = none ∧ j < nE ∧ rdS { g with ea := a, ej := j } noW fsu D σ H) (tb := fun W => rdS g W fb) hs hf hN hi hln hc tk hb (fun a oe cls d pn hz hd => ⟨fun pins s σ H D I ⟨j, e1, e2, hj, h⟩ => by
    subst e1 e2
    exact (hsu a oe j pn hj hz hd).run pins s σ H D I h⟩)).imp fun D σ H ⟨ρ, s, h, rs, r, p⟩ => by
    refine ⟨ρ, s, h, rs, r, ?_⟩
    unfold fTryAs at p
    cases q : fb s h with
    | nx s' h' => simp only [q] at p; exact p
    | rt s' h' => simp only [q] at p; exact p
    | bk s' h' => simp only [q] at p; exact p
    | ct s' h' => simp only [q] at p; exact p
    | no => simp only [q] at p; exact p.elim
    | ex j s' h' =>
      simp only [q] at p
      intro ρ' H' σ' e' r' rs'
      split at p
      · exact p.elim
      · rename_i hj
        have hj := Nat.blt_eq.mp hj
        refine ⟨sub j, hsub j hj, fun hb1 a na => ?_, fun hb0 => ?_⟩
        · rw [hb1] at p
          simp only at p
          split at p
          · exact p.elim
          · rename_i hcl
            rw [Bool.and_eq_true] at hcl
            have sw : Sw g { g with ea := a, ej := j } := ⟨rfl, rfl⟩
            have sb : Sw { g with ea := a, ej := j } g := ⟨rfl, rfl⟩
            refine ⟨j, rfl, rfl, hj, ρ', s'.set i (some (.exc j)), h', (rs'.sw sw hcl.1).set (by unfold RV; exact ⟨rfl, rfl⟩) i, r'.sw sw hcl.2, ?_⟩
            split at p
            · rename_i c h2 qs
              split at p
              · rename_i hc2
                rw [Bool.and_eq_true] at hc2
                rw [qs]
                exact fun ρ2 H2 v e2 r2 rv2 => p ρ2 H2 v (e'.trans e2) (r2.sw sb hc2.2) (rv2.sw sb hc2.1)
              · exact p.elim
            · rename_i s2 h2 qs
              split at p
              · rename_i hc2
                rw [Bool.and_eq_true] at hc2
                rw [qs]
                exact fun ρ2 H2 σ2 e2 r2 rs2 => p ρ2 H2 _ (e'.trans e2) (r2.sw sb hc2.2) ((rs2.forget i).sw sb hc2.1)
              · exact p.elim
            · exact p.elim
        · rw [hb0] at p
          exact p ρ' H' σ' e' r' rs'
def fTryOnly (nE : Nat) (sub : Nat → Bool) (fsu fb : FS) : FS := fun s h => match fb s h with
  | .ex j s' h' => (match Nat.blt j nE with
    | false => .no
    | true => (match sub j with
      | false => .ex j s' h'
      | true => (match fsu s' h' with
          | .ex _ _ _ => .no
          | r => r)))
  | .nx s h => .nx s h
  | .rt a h => .rt a h
  | .bk s h => .bk s h
  | .ct s h => .ct s h
  | .no => .no
theorem es_tryOnly (hs : X.stack = X.env :: X.outer) (hf : X.env.frame = some X.env.locals) (hc : Names X x (.ref (g.ca jc))) (tk : Takes X W)
    (hsub : ∀ j, j < nE → PySem.W.exmOne X.K (.ref (g.ca j)) (.ref (g.ca jc)) = some (sub j))
    (hb : ∀ (W : WX) (pn : List (Addr × Obj)) (xe : Value → Shared → Prop), Takes (X.tr pn xe) W → PassesOwn (model X.prog X.w) X.A X.env xe → PSs (X.tr pn xe) body (rdS g W fb))
    (hsu : ∀ (a : Addr) (oe : Obj) (pn : List (Addr × Obj)), PSs (X.suite a ((a, oe) :: pn)) (b₀ :: suite) (rdS g noW fsu)) :
    PS X (.Try body [.ExceptHandler (some (.Name x np)) none (b₀ :: suite) pos'] [] [] pos) (rdS g W (fTryOnly nE sub fsu fb)) :=
  (ps_try_only (ts := fun _ _ _ => rdS g noW fsu) (tb := fun W => rdS g W fb) hs hf hc tk hb (fun a oe cls d pn hz hd => hsu a oe pn)).imp fun D σ H ⟨ρ, s, h, rs, r, p⟩ => by
    refine ⟨ρ, s, h, rs, r, ?_⟩
    unfold fTryOnly at p
    cases q : fb s h with
    | nx s' h' => simp only [q] at p; exact p
    | rt s' h' => simp only [q] at p; exact p
    | bk s' h' => simp only [q] at p; exact p
    | ct s' h' => simp only [q] at p; exact p
    | no => simp only [q] at p; exact p.elim
    | ex j s' h' =>
      simp only [q] at p
      intro ρ' H' σ' e' r' rs'
      split at p
      · exact p.elim
      · rename_i hj
        have hj := Nat.blt_eq.mp hj
        refine ⟨sub j, hsub j hj, fun hb1 a na => ⟨ρ', s', h', rs', r', ?_⟩, fun hb0 => ?_⟩
        · rw [hb1] at p
          simp only at p
          cases qs : fsu s' h' with
          | nx s2 h2 => simp only [qs] at p; exact fun ρ2 H2 σ2 e2 r2 rs2 => p ρ2 H2 σ2 (e'.trans e2) r2 rs2
          | rt s2 h2 => simp only [qs] at p; exact fun ρ2 H2 σ2 e2 r2 rs2 => p ρ2 H2 σ2 (e'.trans e2) r2 rs2
          | bk s2 h2 => simp only [qs] at p; exact fun ρ2 H2 σ2 e2 r2 rs2 => p ρ2 H2 σ2 (e'.trans e2) r2 rs2
          | ct s2 h2 => simp only [qs] at p; exact fun ρ2 H2 σ2 e2 r2 rs2 => p ρ2 H2 σ2 (e'.trans e2) r2 rs2
          | no => simp only [qs] at p; exact p
          | ex _ _ _ => simp only [qs] at p; exact p.elim
        · rw [hb0] at p
          exact p ρ' H' σ' e' r' rs'
/-- isinstance(e, T) in an except suite -/
def fIsE (i : Nat) (ans : Nat → Bool) : FE := fun s h => match s[i]? with
  | some (some (.exc j)) => .ok (.bl (ans j)) h
  | _ => .no
theorem ee_isE {a : Addr} {oe : Obj} {j : Nat} {pn : List (Addr × Obj)} {T : Str} {TN : String} {p1 p2 p3 : Pos} {ans : Nat → Bool} (hz : Zc (.ref (g.ca j)) none oe) (hfd : ∃ vs, oe.data = .fields vs) (C : ExcC X.K (g.ca j)) (hk : PySem.W.kitOne X.K (.ref (g.ca j)) (.type TN) = some (ans j))
    (hgi : L2.Gl X "isinstance") (hmi : X.mg "isinstance" = none) (hi : X.N[i]? = some n) (hv : Vis X.env.scope n) (hgT : L2.Gl X T) (hmT : X.mg T = none) (hvT : bootBuiltins T = some (.type TN))
    (hd : (n == ("__debug__" : Str)) = false := by decide) (hcd : (n == ("__classdict__" : Str)) = false := by decide) (hn : T ≠ "__name__" := by decide) (hdT : (T == ("__debug__" : Str)) = false := by decide) :
    PE (X.suite a ((a, oe) :: pn)) (.Call (.Name "isinstance" p1) [.Name n p2, .Name T p3] [] pos) (rdE { g with ea := a, ej := j } W (fIsE i ans)) :=
  (pe_callB (X := X.suite a ((a, oe) :: pn)) (call_isE C hz hfd) hgi hmi (by rfl) (pa_cons (pe_var hi hv hd hcd) (pa_cons (pe_bltn (v := .ty TN) hgT hmT hvT rfl hn hdT) pa_nil))).imp fun σ H Q ⟨ρ, s, h, rs, r, p⟩ => by
    unfold fIsE at p
    split at p
    · rename_i j' e
      obtain ⟨v, h1, h2⟩ := rs.get e
      unfold RV at h2
      obtain ⟨rfl, rfl⟩ := h2
      exact ⟨_, h1, .ty TN, .type TN, _, rfl, fun u hu => hu, hk, p.now .refl r _ rv_bl⟩
    · exact p.elim
end
end Ev

namespace Ev
open PySem PySem.Spec L2
open PyProof.Rows hiding St
/-! ### in, not in -/
def rInA (K : PySem.W.Frag) : R2 := fun x y H Q => rInD K x y H Q ∨ rIn K false x y H Q
def rNotInA (K : PySem.W.Frag) : R2 := fun x y H Q => rNotInD K x y H Q ∨ rIn K true x y H Q
theorem or_in {X : Cx} (hu : X.A.units + 65 < cLine) : OpR X (compareOp .In) (rInA X.K) := (op_inD hu).or op_in_seq
theorem or_notin {X : Cx} (hu : X.A.units + 65 < cLine) : OpR X (compareOp .NotIn) (rNotInA X.K) := (op_notInD hu).or op_notIn_seq
theorem room_in {k : Nat} {A : Around} (hr : Room k A) : A.units + 65 < cLine := by
  have := hr.un
  omega
def flatA : A → Bool
  | .non => true
  | .bl _ => true
  | .int _ => true
  | .str _ => true
  | _ => false
def eqA : A → A → Bool
  | .non, .non => true
  | .bl a, .bl b => a == b
  | .bl a, .int b => (if a = true then 1 else 0) == b
  | .int a, .bl b => a == (if b = true then 1 else 0)
  | .int a, .int b => a == b
  | .str a, .str b => a == b
  | _, _ => false
section
variable {g : Gl} {ρ : Nat → Addr} {n : Nat} {H : Hp}
theorem flatA_V {a : A} {v : V} (f : flatA a = true) (r : RV g ρ n H a v) : flatV v = true := by
  cases a with
  | non => cases r.non'; rfl
  | bl _ => cases r.bl'; rfl
  | int _ => cases r.int'; rfl
  | str _ => cases r.str'; rfl
  | _ => cases f
theorem eqA_V {a b : A} {v w : V} (f : flatA a = true) (f2 : flatA b = true) (r : RV g ρ n H a v) (r2 : RV g ρ n H b w) : eqV v w = eqA a b := by
  cases a with
  | non => cases r.non'; cases b <;> first | (cases f2; done) | (cases r2.non'; rfl) | (cases r2.bl'; rfl) | (cases r2.int'; rfl) | (cases r2.str'; rfl)
  | bl _ => cases r.bl'; cases b <;> first | (cases f2; done) | (cases r2.non'; rfl) | (cases r2.bl'; rfl) | (cases r2.int'; rfl) | (cases r2.str'; rfl)
  | int _ => cases r.int'; cases b <;> first | (cases f2; done) | (cases r2.non'; rfl) | (cases r2.bl'; rfl) | (cases r2.int'; rfl) | (cases r2.str'; rfl)
  | str _ => cases r.str'; cases b <;> first | (cases f2; done) | (cases r2.non'; rfl) | (cases r2.bl'; rfl) | (cases r2.int'; rfl) | (cases r2.str'; rfl)
  | _ => cases f
theorem flats_V : ∀ {xs : List A} {ys : List V}, xs.all flatA = true → RVs g ρ n H xs ys → ys.all flatV = true
  | [], _, _, r => by rw [r.unnil]; rfl
  | x :: xs, _, f, r => by
    obtain ⟨y, ys, rfl, r1, r2⟩ := r.uncons
    have f := Bool.and_eq_true_iff.mp (List.all_cons ▸ f)
    rw [List.all_cons, flatA_V f.1 r1, flats_V f.2 r2]; rfl
theorem inA_V {a : A} {v : V} (fa : flatA a = true) (ra : RV g ρ n H a v) : ∀ {xs : List A} {ys : List V}, xs.all flatA = true → RVs g ρ n H xs ys → inV v ys = xs.any fun y => eqA y a
  | [], _, _, r => by rw [r.unnil]; rfl
  | x :: xs, _, f, r => by
    obtain ⟨y, ys, rfl, r1, r2⟩ := r.uncons
    have f := Bool.and_eq_true_iff.mp (List.all_cons ▸ f)
    have := inA_V fa ra f.2 r2
    unfold inV at this ⊢
    rw [List.any_cons, List.any_cons, this, eqA_V f.1 fa r1 ra]
end
def cIn (neg : Bool) : C2 := fun v w h => match w with
  | .tup xs => (match flatA v && xs.all flatA with
    | true => .ok (Bool.xor neg (xs.any fun y => eqA y v)) h
    | false => .no)
  | .ref k => (match flatA v, h.get k with
    | true, some (.lst xs) => (match xs.all flatA with
      | true => .ok (Bool.xor neg (xs.any fun y => eqA y v)) h
      | false => .no)
    | false, some (.lst xs) => (match toD h 60 v, mapD (toD h 60) xs with
      | some d, some ds => (match SeqAt.shaped d && SeqAt.shaped (.list ds) with
        | true => .ok (Bool.xor neg (ds.any fun z => PyData.eqv z d)) h
        | false => .no)
      | _, _ => .no)
    | _, _ => .no)
  | _ => .no
theorem cIn_ok {g : Gl} {K : PySem.W.Frag} {neg : Bool} {W : WX} {ρ ρc : Nat → Addr} {n : Nat} {H Hc : Hp} {h : Ah} {σ : St} {Q : VK} {v w : A} {x y : V} (e : Ext ρ n H ρc h.n Hc) (r : RH g ρc Hc h) (rx : RV g ρc h.n Hc v x) (ry : RV g ρc h.n Hc w y)
    (p : Post g W ρ n H σ (fun b _ _ H' => Q (.bl b) H') (cIn neg v w h)) :
    (∃ d ds, Dp K Hc x d ∧ Dp K Hc y (.list ds) ∧ SeqAt.shaped d = true ∧ SeqAt.shaped (.list ds) = true ∧ Q (.bl (Bool.xor neg (ds.any fun z => PyData.eqv z d))) Hc) ∨
    (∃ p xs, y = .ref p ∧ (SqL K Hc p xs ∨ SqT K Hc p xs) ∧ flatV x = true ∧ xs.all flatV = true ∧ Q (.bl (Bool.xor neg (inV x xs))) Hc) := by
  unfold cIn at p
  split at p
  · split at p
    · rename_i xs hf
      rw [Bool.and_eq_true] at hf
      obtain ⟨q, ys, rfl, hq, rys⟩ := ry.tup'
      exact .inr ⟨q, ys, rfl, .inr (.of hq), flatA_V hf.1 rx, flats_V hf.2 rys, by rw [inA_V hf.1 rx hf.2 rys]; exact p.now e r⟩
    · exact p.elim
  · split at p
    · rename_i xs hfa hk
      split at p
      · rename_i hf
        obtain ⟨_, rfl⟩ := ry.ref'
        obtain ⟨ys, hy, rys⟩ := r.lst hk
        exact .inr ⟨_, ys, rfl, .inl (.of hy), flatA_V hfa rx, flats_V hf rys, by rw [inA_V hfa rx hf rys]; exact p.now e r⟩
      · exact p.elim
    · rename_i xs hfa hk
      split at p
      · rename_i d ds hd hds
        split at p
        · rename_i hs
          rw [Bool.and_eq_true] at hs
          obtain ⟨_, rfl⟩ := ry.ref'
          obtain ⟨ys, hy, rys⟩ := r.lst hk
          exact .inl ⟨d, ds, toD_ok r _ _ _ _ hd rx, .lst (.of hy) (mapD_all (fun a v d e rv => toD_ok r 60 a v d e rv) hds rys), hs.1, hs.2, p.now e r⟩
        · exact p.elim
      · exact p.elim
    · exact p.elim
  · exact p.elim
theorem co_in {g : Gl} {K : PySem.W.Frag} : CmpOk g (rInA K) (cIn false) := by
  intro W ρ ρc n H Hc h σ Q v w x y e r rx ry p
  rcases cIn_ok (K := K) e r rx ry p with ⟨d, ds, h1, h2, h3, h4, q⟩ | ⟨a, xs, h1, h2, h3, h4, q⟩
  · rw [Bool.false_xor] at q; exact .inl ⟨d, ds, h1, h2, h3, h4, q⟩
  · rw [Bool.false_xor] at q; exact .inr ⟨a, xs, h1, h2, h3, h4, q⟩
theorem co_notin {g : Gl} {K : PySem.W.Frag} : CmpOk g (rNotInA K) (cIn true) := by
  intro W ρ ρc n H Hc h σ Q v w x y e r rx ry p
  rcases cIn_ok (K := K) e r rx ry p with ⟨d, ds, h1, h2, h3, h4, q⟩ | ⟨a, xs, h1, h2, h3, h4, q⟩
  · rw [Bool.true_xor] at q; exact .inl ⟨d, ds, h1, h2, h3, h4, q⟩
  · rw [Bool.true_xor] at q; exact .inr ⟨a, xs, h1, h2, h3, h4, q⟩

/-! ### o[i] = v of a list; methods -/
section
variable {X : Cx} {g : Gl} {W : WX} {pos : Pos}
def fSetI (f fo fi : FE) : FS := fun s h => (f s h).toS s fun v h1 => (fo s h1).toS s fun o h2 => (fi s h2).toS s fun i h3 => match o, i with
  | .ref k, .int j => (match h3.get k with
    | some (.lst xs) => (match ixN xs.length j with
      | some m => .nx s (h3.set k (.lst (xs.set m v)))
      | none => .no)
    | _ => .no)
  | _, _ => .no
theorem es_seti {o i e : Expr} {f fo fi : FE} {p' : Pos} (he : PE X e (rdE g W f)) (ho : PE X o (rdE g W fo)) (hi : PE X i (rdE g W fi)) (hs : swapsWithSole [.Subscript o i p'] e pos.line X.env = pure false := by rfl) (hw : swappedStores [.Subscript o i p'] e X.env = pure none := by rfl)
    (h1 : (assignEach [.Subscript o i p'] X.env).map (·.2) = [assign (.Subscript o i p') X.env] := by rfl)
    (ha : ∀ v, assign (.Subscript o i p') X.env v = (do let ov ← holding [v] (eval o X.env); let iv ← holding [v, ov] (eval i X.env); standAt p'; holding [v, ov, iv] (setItem ov iv v); release [v, ov, iv] []) := by intro _; rfl) : PS X (.Assign [.Subscript o i p'] e pos) (rdS g W (fSetI f fo fi)) :=
  (ps_asg he (pg_sub ho hi set_list ha) hs hw h1).imp fun D σ H ⟨ρ, s, h, rs, r, p⟩ => rdS.e rs r .refl p fun v x ρ1 h1 H1 e1 r1 rx p1 =>
    rdS.e (rs.mono e1) r1 e1 p1 fun ov o' ρ2 h2 H2 e2 r2 ro p2 => rdS.e ((rs.mono e1).mono e2) r2 (e1.trans e2) p2 fun iv i' ρ3 h3 H3 e3 r3 ri p3 => by
      split at p3
      · split at p3
        · rename_i xs hk
          split at p3
          · rename_i m hm
            obtain ⟨hlt, rfl⟩ := (ro.mono e3).ref'
            cases ri.int'
            obtain ⟨ys, hy, rys⟩ := r3.lst hk
            have ee := (e1.trans e2).trans e3
            have eu := ext_upd (ys' := ys.set m x) r3 hlt hy
            refine ⟨_, ys, _, m, rfl, rfl, hy, by rw [← rys.length]; exact hm, ?_⟩
            exact p3 ρ3 _ σ (ee.trans eu) (r3.upd hlt hy (rys.set m ((rx.mono e2).mono e3))) ((((rs.mono e1).mono e2).mono e3).mono eu)
          · exact p3.elim
        · exact p3.elim
      · exact p3.elim
theorem ee_met {name : Str} {id : String} {o e : Expr} {es : List Expr} {apos cpos : Pos} {r : V → List V → Hp → VK → Prop} {mop : GM} {fo : FE} {fs : FA} (slot : Slot "list" name id) (hty : typeOf (.builtin id) = pure (.type "method_descriptor")) (hm : MtR X id r) (ok : MetOk g r mop) (ho : PE X o (rdE g W fo)) (ha : PA X (e :: es) (rdA g W fs)) (hbase : attributeBase o name X.env (eval o X.env) = eval o X.env := by rfl) (hfew : ((backTo cpos (starEach (e :: es) X.env)).all (fun x => !x.1) && (backToKw cpos (keywordEach [] X.env)).all (fun x => x.1.isSome) && decide ((e :: es).length + ([] : List Keyword).length + (if ([] : List Keyword).isEmpty then 0 else 1) < 30)) = true := by rfl) (hline : (apos.endLine == cpos.line) = true := by rfl) (hs : starEach (e :: es) X.env = (false, eval e X.env) :: starEach es X.env := by rfl) (hplain : (backTo cpos (starEach es X.env)).any (·.1) = false := by rfl) :
    PE X (.Call (.Attribute o name apos) (e :: es) [] cpos) (rdE g W (fMet mop fo fs)) := (pe_bm PySem.F.plainAttrs_list slot hty hm ho ha hbase hfew hline hs hplain).imp fun _ _ _ => rdBM ok
theorem ee_met0 {name : Str} {id : String} {o : Expr} {apos cpos : Pos} {r : V → List V → Hp → VK → Prop} {mop : GM} {fo : FE} (slot : Slot "list" name id) (hty : typeOf (.builtin id) = pure (.type "method_descriptor")) (hm : MtR X id r) (ok : MetOk g r mop) (ho : PE X o (rdE g W fo)) (hbase : attributeBase o name X.env (eval o X.env) = eval o X.env := by rfl) (hline : (apos.endLine == cpos.line) = true := by rfl) :
    PE X (.Call (.Attribute o name apos) [] [] cpos) (rdE g W (fMet mop fo fNil)) := (pe_bm0 PySem.F.plainAttrs_list slot hty hm ho hbase hline).imp fun _ _ _ => rdBM0 ok
/-- a global constant -/
theorem ee_glob {x : Str} {v : V} {u : Value} {a : A} (hg : L2.Gl X x) (hm : X.mg x = some u) (r : RelV v u) (ha : ∀ ρ n H, RV g ρ n H a v) (hdb : (x == ("__debug__" : Str)) = false := by decide) : PE X (.Name x pos) (rdE g W (fCon a)) :=
  ee_con ⟨fun pins s σ H Q I h => ld_glob I hg hm ⟨v, H, I, r, h⟩ hdb⟩ ha
end
end Ev
namespace Ev
open PySem PySem.Spec L2
open PyProof.Rows hiding St
section
variable {X : Cx} {g : Gl} {W : WX} {pos : Pos}
theorem RVs.three {ρ : Nat → Addr} {n : Nat} {H : Hp} {x x' x'' : A} {ys : List V} (h : RVs g ρ n H [x, x', x''] ys) : ∃ y y' y'', ys = [y, y', y''] ∧ RV g ρ n H x y ∧ RV g ρ n H x' y' ∧ RV g ρ n H x'' y'' := by
  obtain ⟨y, r, rfl, h1, h2⟩ := h.uncons
  obtain ⟨y', y'', rfl, h3, h4⟩ := h2.two
  exact ⟨y, y', y'', rfl, h1, h3, h4⟩
def fPar3 (i j l : Nat) (fs : FA) : FS := fun s h => (fs s h).toS s fun vs h1 => match vs with
  | [u, v, w] => .nx (((s.set i (some u)).set j (some v)).set l (some w)) h1
  | _ => .no
theorem es_par3 {i j l : Nat} {x y z : Str} {a b c : Expr} {fs : FA} {px py pz pt : Pos} {kt k2 pt2} (hc : X.calm = true) (hN : X.N.Nodup) (hi : X.N[i]? = some x) (hj : X.N[j]? = some y) (hl : X.N[l]? = some z) (hij : i ≠ j) (hil : i ≠ l) (hjl : j ≠ l)
    (hx : X.env.scope.names.lookup x = some .local) (hy : X.env.scope.names.lookup y = some .local) (hz : X.env.scope.names.lookup z = some .local) (ha : PA X [a, b, c] (rdA g W fs)) (hw : swappedStores [.Tuple [.Name x px, .Name y py, .Name z pz] kt pt] (.Tuple [a, b, c] k2 pt2) X.env = pure (some [x, y, z])) (hs : swapsWithSole [.Tuple [.Name x px, .Name y py, .Name z pz] kt pt] (.Tuple [a, b, c] k2 pt2) pos.line X.env = pure false := by rfl) :
    PS X (.Assign [.Tuple [.Name x px, .Name y py, .Name z pz] kt pt] (.Tuple [a, b, c] k2 pt2) pos) (rdS g W (fPar3 i j l fs)) :=
  (ps_par3 hc hN hi hj hl hij hil hjl hx hy hz ha hw hs).imp fun D σ H ⟨ρ, s, h, rs, r, p⟩ => rdS.a rs r .refl p fun vs xs ρ1 h1 H1 e1 r1 rx p1 => by
    split at p1
    · obtain ⟨u, v, w, rfl, ru, rv, rw'⟩ := rx.three
      exact ⟨u, v, w, rfl, p1 ρ1 H1 _ e1 r1 ((((rs.mono e1).set ru i).set rv j).set rw' l)⟩
    · exact p1.elim
theorem et_chain {op op' : CmpOp} {r r' : R2} {c1 c2 : C2} {a b c : Expr} {fa fb fc : FE} (ho : OpR X (compareOp op) r) (ho' : OpR X (compareOp op') r') (o1 : CmpOk g r c1) (o2 : CmpOk g r' c2) (ha : PE X a (rdE g W fa)) (hb : PE X b (rdE g W fb)) (hc : PE X c (rdE g W fc))
    (hm : behindInMarks op' c = false) : PT X (.Compare a [op, op'] [b, c] pos) (rdT g W (tch c1 c2 fa fb fc)) := (pt_chain ho ho' ha hb hc (by show behindInMarks op' c = false; exact hm)).imp fun σ H Q q => by
  have q : rdT g W (tch c1 c2 fa fb fc) σ H (fun b H' => (fun x H' => ∃ k, x = V.bl k ∧ Q k H') (.bl b) H') := by
    obtain ⟨ρ, s, h, rs, rh, p⟩ := q
    refine ⟨ρ, s, h, rs, rh, ?_⟩
    cases e : tch c1 c2 fa fb fc s h with
    | ok v h1 => rw [e] at p; exact fun ρ1 H1 e1 r1 => ⟨_, rfl, p ρ1 H1 e1 r1⟩
    | ex c h1 => rw [e] at p; exact p
    | no => rw [e] at p; exact p
  exact rch o1 o2 q
end
end Ev
namespace Ev
open PySem PySem.Spec L2
open PyProof.Rows hiding St
section
variable {X : Cx} {g : Gl} {W : WX} {pos : Pos}
theorem bt_ValueError : bootBuiltins "ValueError" = some (.type "ValueError") := by decide +kernel
theorem bt_LookupError : bootBuiltins "LookupError" = some (.type "LookupError") := by decide +kernel
theorem room_eq {k : Nat} {A : Around} (hr : Room k A) : A.units + 64 < cLine := by
  have := hr.un
  omega
theorem byRef_ok0 {K : PySem.W.Frag} {r : List V → Hp → VK → Prop} {lop : List A → Ah → Rs A} (o1 : ListOk g K r lop) : CallOk g r (byRef lop noC) := by
  intro W ρ ρc n H Hc h σ Q vs xs e r rx p
  rcases byRef_ok o1 noC_ok e r rx p with z | z
  · exact z
  · exact z.elim
theorem ee_gint {x : Str} {i : Int} (hg : L2.Gl X x) (hm : ∃ t, X.mg x = some (.int i t)) (hdb : (x == ("__debug__" : Str)) = false := by decide) : PE X (.Name x pos) (rdE g W (fCon (.int i))) := by
  obtain ⟨t, hm⟩ := hm
  exact ee_glob (v := .int i) hg hm ⟨t, rfl⟩ (fun _ _ _ => rv_int) hdb
theorem ee_callG {id : String} {x : Str} {e : Expr} {es : List Expr} {fs : FA} {p : Pos} {r : List V → Hp → VK → Prop} {cop : GL} (hc : CallR X (.builtin id) r) (ok : CallOk g r cop) (hg : L2.Gl X x) (hm : X.mg x = some (.builtin id)) (ha : PA X (e :: es) (rdA g W fs)) (hdb : (x == ("__debug__" : Str)) = false := by decide)
    (he : starEach (e :: es) X.env = (false, eval e X.env) :: starEach es X.env := by rfl) (hpl : (backTo pos (starEach es X.env)).any (·.1) = false := by rfl) : PE X (.Call (.Name x p) (e :: es) [] pos) (rdE g W (fCall cop fs)) :=
  (pe_callBfun hc hg hm ha hdb he hpl).imp fun _ _ _ => rdCB ok
end
end Ev
namespace Ev
open PySem PySem.Spec L2
open PyProof.Rows hiding St
def good : Rs A → Bool
  | .ok (.bl true) _ => true
  | _ => false
def spTop : Sp := fun vs H Q _ => ∃ a, vs = [a] ∧ ∀ H', Q (.bl true) H'
theorem top_ok {P : Program} {w : World} {K : PySem.W.Frag} {mg : Str → Option Value} {base : Heap} {g : Gl} {f : Addr} {fd : FuncData} {k : Nat} {x : Str} {C : GL} (F : FnOk P w K mg base (L2.CX P w) k f fd [x] (spA g 1 C)) (hC : good (C [.opq] Ah.nil) = true) : FnOk P w K mg base (L2.CX P w) k f fd [x] spTop := by
  have imp : ∀ vs H Q E, spTop vs H Q E → spA g 1 C vs H Q E := fun vs H Q E ⟨a, e, q⟩ => by
    subst e
    refine ⟨fun _ => 0, Ah.nil, [.opq], RH.nil g _ H, .cons (by unfold RV; trivial) .nil, rfl, ?_⟩
    unfold good at hC
    split at hC
    · rename_i h' e
      rw [e]
      intro ρ' H' _ _ x rx
      cases rx.bl'
      exact q H'
    · cases hC
  exact ⟨fun vs H Q E h => F.len vs H Q E (imp vs H Q E h), fun A outer s H args us vs Q E h1 h2 h3 h4 h5 => F.run A outer s H args us vs Q E h1 h2 h3 h4 (imp vs H Q E h5)⟩
theorem cx_no {P : Program} {w : World} {H : Hp} {s : Shared} {e : Value} {s' : Shared} (h : L2.CX P w [] H s (fun _ _ _ => False) e s') : False := by
  obtain ⟨_, _, _, _, _, _, _, _, _, _, _, _, no⟩ := h
  exact no
end Ev
namespace Ev
open PySem PySem.Spec L2
theorem kit_ref {K : PySem.W.Frag} {C : Addr} {T : String} {b : Bool} (hm : PySem.W.kitMeta T = true) (hs : PySem.W.subIn K (.ref C) (.type T) = some b) : PySem.W.kitOne K (.ref C) (.type T) = some b := by
  have e : ¬ (Value.ref C == Value.type T) = true := by simp
  unfold PySem.W.kitOne
  rw [if_neg e]
  show (if PySem.W.kitMeta T = true then PySem.W.subIn K (.ref C) (.type T) else none) = some b
  rw [if_pos hm]
  exact hs
end Ev

namespace Ev
open PySem PySem.Spec L2
open PyProof.Rows hiding St

/-! ### list comprehensions of two clauses -/
def compI (j : Ja) (t : Tg) (ft : FT) (fe : FE) (s : Sa) : Nat → Nat → List A → Ah → Rs (List A)
  | 0, _, _, _ => .no
  | m + 1, i, acc, h => match j.nxt i h with
    | none => .no
    | some none => .ok acc h
    | some (some x) => match t.run x s with
      | none => .no
      | some s1 => (noEx (ft s1 h)).bind fun b h1 => match b with
        | false => compI j t ft fe s m (i + 1) acc h1
        | true => (noEx (fe s1 h1)).bind fun y h2 => match Nat.blt acc.length 16777216 with
          | true => compI j t ft fe s m (i + 1) (y :: acc) h2
          | false => .no
def compO (j : Ja) (t : Tg) (ft : FT) (fi1 : FI) (t1 : Tg) (ft1 : FT) (fe : FE) (vs1 : List Nat) (fu : Nat) (s : Sa) : Nat → Nat → List A → Ah → Rs (List A)
  | 0, _, _, _ => .no
  | m + 1, i, acc, h => match j.nxt i h with
    | none => .no
    | some none => .ok acc.reverse h
    | some (some x) => match t.run x s with
      | none => .no
      | some s1 => (noEx (ft s1 h)).bind fun b h1 => match b with
        | false => compO j t ft fi1 t1 ft1 fe vs1 fu s m (i + 1) acc h1
        | true => (noEx (fi1 s1 h1)).bind fun j1 h2 => (compI j1 t1 ft1 fe (wipeA s1 vs1) fu 0 acc h2).bind fun acc' h3 => compO j t ft fi1 t1 ft1 fe vs1 fu s m (i + 1) acc' h3
def fLc2 (fi : FI) (t : Tg) (ft : FT) (fi1 : FI) (t1 : Tg) (ft1 : FT) (fe : FE) (vs vs1 : List Nat) (fuel : Nat) : FA := fun s h => (fi s h).bind fun j h1 => compO j t ft fi1 t1 ft1 fe vs1 fuel (wipeA s vs) fuel 0 [] h1
theorem Rs.bind_assoc {α β γ : Type} (r : Rs α) (k : α → Ah → Rs β) (l : β → Ah → Rs γ) : (r.bind k).bind l = r.bind fun a h => (k a h).bind l := by
  cases r <;> rfl
section
variable {X : Cx} {g : Gl} {W : WX} {pos : Pos}
theorem lc2_rd {fi fi1 : FI} {t t1 : Tg} {ft ft1 : FT} {fe : FE} {vs vs1 : List Nat} {fuel : Nat} (hv : t.slots.all (vs.contains ·) = true) (hv1 : t1.slots.all (vs1.contains ·) = true) {σ : St} {H : Hp} {Q : VK} (q : rdL g W (fLc2 fi t ft fi1 t1 ft1 fe vs vs1 fuel) σ H Q) :
    tLc2 (rdI g W fi) (rdG g t) (rdT g noW ft) (rdI g noW fi1) (rdG g t1) (rdT g noW ft1) (rdE g noW fe) vs vs1 σ H Q := by
  have hv : ∀ i ∈ t.slots, i ∈ vs := fun i hi => List.contains_iff_mem.mp (List.all_eq_true.mp hv i hi)
  have hv1 : ∀ i ∈ t1.slots, i ∈ vs1 := fun i hi => List.contains_iff_mem.mp (List.all_eq_true.mp hv1 i hi)
  obtain ⟨ρ, s, h, rs, rh, p⟩ := q
  refine ⟨ρ, s, h, rs, rh, Post.seq .refl p fun j ρ1 h1 H1 _ e1 r1 p1 J rj => ?_⟩
  intro D hD
  have rs1 : RS g ρ1 h1.n H1 (wipeA s vs) (wipe σ vs) := (rs.mono e1).wipe vs
  have hD0 : H D = none := e1.gn D hD
  let cO := compO j t ft fi1 t1 ft1 fe vs1 fuel (wipeA s vs)
  let Wo : Nat → Nat → Hp → Prop := fun i m Hc => ∃ ρ' h' acc ys, Ext ρ1 h1.n H1 ρ' h'.n Hc ∧ RH g ρ' Hc h' ∧ Hc D = some (.lst ys) ∧ (∀ k, k < h'.n → ρ' k ≠ D) ∧ RVs g ρ' h'.n Hc acc.reverse ys ∧ Post g W ρ h.n H σ (LQ g H Q) (cO m i acc h')
  refine ⟨Wo, ⟨fuel, ρ1, h1, [], [], ext_new hD, r1.new hD, upd_same, fun k hk z => ?_, .nil, p1⟩, fun i m Hc w => ?_⟩
  · obtain ⟨o, ho, _⟩ := r1.there hk
    rw [z, hD] at ho; cases ho
  · obtain ⟨ρ', h', acc, ys, ec, rc, hDc, nD, rys, pc⟩ := w
    cases m with
    | zero => exact pc.elim
    | succ m =>
      unfold cO compO at pc
      split at pc
      · exact pc.elim
      · rename_i en
        exact .inl ⟨rj ec.to rc en, pc ρ' Hc (e1.trans ec) rc D ys hD0 hDc nD rys⟩
      · rename_i x en
        split at pc
        · exact pc.elim
        · rename_i s1 es
          obtain ⟨go, yl⟩ := rj ec.to rc en
          refine .inr ⟨go, fun Hn => ∃ m', m' < m + 1 ∧ Wo (i + 1) m' Hn, fun H' w => w, fun v H' hy => ?_⟩
          obtain ⟨e2, r2, rx⟩ := yl v H' hy
          have ec2 := ec.trans e2
          refine ⟨ρ', h'.n, wipeA s vs, x, s1, rs1.mono ec2, rx, es, fun σ2 rs2 hw => ⟨(hw vs hv).trans (wipe_wipe σ vs vs fun _ h => h), ρ', s1, h', rs2, r2, Post.noEx pc fun b ρ3 h3 H3 _ e3 r3 p3 => ?_⟩⟩
          have ec3 := ec2.trans e3
          have hD2 : H' D = some (.lst ys) := e2.fr D _ hDc nD
          have hD3 : H3 D = some (.lst ys) := e3.fr D _ hD2 nD
          have nD3 := e3.out hD2 nD
          have rys3 := (rys.mono e2).mono e3
          cases b with
          | false => exact iteF ⟨m, Nat.lt_succ_self _, ρ3, h3, acc, ys, ec3, r3, hD3, nD3, rys3, p3⟩
          | true =>
            refine iteT ⟨ρ3, s1, h3, rs2.mono e3, r3, Post.noEx p3 fun j1 ρ4 h4 H4 _ e4 r4 p4 J1 rj1 => ?_⟩
            have ec4 := ec3.trans e4
            have hD4 : H4 D = some (.lst ys) := e4.fr D _ hD3 nD3
            have nD4 := e4.out hD3 nD3
            have rs4 : RS g ρ4 h4.n H4 (wipeA s1 vs1) (wipe σ2 vs1) := ((rs2.mono e3).mono e4).wipe vs1
            have D1 : H1 D = none := hD
            let Wi : Nat → Nat → Hp → Prop := fun jx k Hc => ∃ ρ' h' acc ys, Ext ρ1 h1.n H1 ρ' h'.n Hc ∧ Tp ρ4 h4.n H4 ρ' h'.n Hc ∧ RH g ρ' Hc h' ∧ Hc D = some (.lst ys) ∧ (∀ k, k < h'.n → ρ' k ≠ D) ∧ RVs g ρ' h'.n Hc acc.reverse ys ∧
              Post g W ρ h.n H σ (LQ g H Q) ((compI j1 t1 ft1 fe (wipeA s1 vs1) k jx acc h').bind fun acc' h'' => cO m (i + 1) acc' h'')
            refine ⟨Wi, ⟨fuel, ρ4, h4, acc, ys, ec4, .refl, r4, hD4, nD4, rys3.mono e4, p4⟩, fun jx k Hc w => ?_⟩
            obtain ⟨ρ', h', acc, ys, ei, ti, ri, hDi, nDi, rysi, pi⟩ := w
            have ei0 := e1.trans ei
            cases k with
            | zero => exact pi.elim
            | succ k =>
              unfold compI at pi
              split at pi
              · exact pi.elim
              · rename_i en1
                exact .inl ⟨rj1 ti ri en1, m, Nat.lt_succ_self _, ρ', h', acc, ys, ei, ri, hDi, nDi, rysi, pi⟩
              · rename_i x1 en1
                split at pi
                · exact pi.elim
                · rename_i s2 es1
                  obtain ⟨go1, yl1⟩ := rj1 ti ri en1
                  refine .inr ⟨go1, fun Hn => ∃ k', k' < k + 1 ∧ Wi (jx + 1) k' Hn, fun H' w => w, fun v H' hy => ?_⟩
                  obtain ⟨e5, r5, rx1⟩ := yl1 v H' hy
                  have ec5 := ei.trans e5
                  have tt5 := ti.trans e5.to
                  have hD5 : H' D = some (.lst ys) := e5.fr D _ hDi nDi
                  have nD5 := nDi
                  have pi' : Post g W ρ h.n H σ (LQ g H Q) ((noEx (ft1 s2 h')).bind fun b h1 => (match b with
                      | false => compI j1 t1 ft1 fe (wipeA s1 vs1) k (jx + 1) acc h1
                      | true => (noEx (fe s2 h1)).bind fun y h2 => match Nat.blt acc.length 16777216 with
                        | true => compI j1 t1 ft1 fe (wipeA s1 vs1) k (jx + 1) (y :: acc) h2
                        | false => .no).bind fun acc' h'' => cO m (i + 1) acc' h'') := by
                    rw [← Rs.bind_assoc]; exact pi
                  refine ⟨ρ', h'.n, wipeA s1 vs1, x1, s2, rs4.monoT tt5, rx1, es1, fun σ3 rs3 hw1 => ⟨(hw1 vs1 hv1).trans (wipe_wipe σ2 vs1 vs1 fun _ h => h), ρ', s2, h', rs3, r5, Post.noEx pi' fun b ρ6 h6 H6 _ e6 r6 p6 => ?_⟩⟩
                  have ec6 := ec5.trans e6
                  have hD6 : H6 D = some (.lst ys) := e6.fr D _ hD5 nD5
                  have nD6 := e6.out hD5 nD5
                  have rys6 := (rysi.mono e5).mono e6
                  cases b with
                  | false => exact iteF ⟨k, Nat.lt_succ_self _, ρ6, h6, acc, ys, ec6, tt5.trans e6.to, r6, hD6, nD6, rys6, p6⟩
                  | true =>
                    have p6' : Post g W ρ h.n H σ (LQ g H Q) ((noEx (fe s2 h6)).bind fun y h2 => (match Nat.blt acc.length 16777216 with
                        | true => compI j1 t1 ft1 fe (wipeA s1 vs1) k (jx + 1) (y :: acc) h2
                        | false => .no).bind fun acc' h'' => cO m (i + 1) acc' h'') := by
                      rw [← Rs.bind_assoc]; exact p6
                    refine iteT ⟨ρ6, s2, h6, rs3.mono e6, r6, Post.noEx p6' fun y ρ7 h7 H7 _ e7 r7 p7 yv ry => ?_⟩
                    have hD7 : H7 D = some (.lst ys) := e7.fr D _ hD6 nD6
                    have nD7 := e7.out hD6 nD6
                    have rys7 := rys6.mono e7
                    split at p7
                    · rename_i hl
                      refine ⟨ys, hD7, ?_, k, Nat.lt_succ_self _, ρ7, h7, y :: acc, ys ++ [yv], ext_over (ec6.trans e7) hD, ((tt5.trans e6.to).trans e7.to).trans (tp_own hD7), r7.own hD7 nD7, upd_same, nD7, ?_, p7⟩
                      · rw [← rys7.length, List.length_reverse]; exact lenLt hl
                      · rw [List.reverse_cons]
                        exact (rys7.append (.cons ry .nil)).monoT (tp_own hD7)
                    · exact p7.elim
theorem el_lc2 {elt tg iter tg1 iter1 : Expr} {ifs ifs1 : List Expr} {scope : Scope} {own : List (Str × Nat)} {vs1 : List Nat} {fi fi1 : FI} {t t1 : Tg} {ft ft1 : FT} {fe : FE} (fuel : Nat) (hc : X.calm = true) (hN : X.N.Nodup) (hi : PI X tg iter (rdI g W fi)) (ok : BlkOk X.N X.env.scope scope own)
    (hv : t.slots.all ((own.map (·.2)).contains ·) = true) (hv1 : t1.slots.all (vs1.contains ·) = true) (hvv : vs1.all ((own.map (·.2)).contains ·) = true)
    (hb : ∀ (s : Shared) (H : Hp) (C : Addr) (cl : List (Str × Addr)) (fp : List Addr), PG (X.blk s H scope (compEnvC scope cl C X.env) fp) tg (rdG g t) ∧ PTs (X.blk s H scope (compEnvC scope cl C X.env) fp) ifs (rdT g noW ft) ∧ PI (X.blk s H scope (compEnvC scope cl C X.env) fp) tg1 iter1 (rdI g noW fi1) ∧
      PG (X.blk s H scope (compEnvC scope cl C X.env) fp) tg1 (rdG g t1) ∧ PTs (X.blk s H scope (compEnvC scope cl C X.env) fp) ifs1 (rdT g noW ft1) ∧ PE (X.blk s H scope (compEnvC scope cl C X.env) fp) elt (rdE g noW fe))
    (hs : ∀ x, foldedSetIterable iter X.env x = pure x := by intro _; rfl) (hs1 : ∀ env x, foldedSetIterable iter1 env x = pure x := by intro _ _; rfl) :
    PE X (.ListComp elt [⟨tg, iter, ifs, 0⟩, ⟨tg1, iter1, ifs1, 0⟩] scope pos) (rdL g W (fLc2 fi t ft fi1 t1 ft1 fe (own.map (·.2)) vs1 fuel)) :=
  (pe_lc2 hc hN hi ok (fun i hi => List.contains_iff_mem.mp (List.all_eq_true.mp hvv i hi)) (fun s H C cl fp => (hb s H C cl fp).1) (fun s H C cl fp => (hb s H C cl fp).2.1) (fun s H C cl fp => (hb s H C cl fp).2.2.1) (fun s H C cl fp => (hb s H C cl fp).2.2.2.1) (fun s H C cl fp => (hb s H C cl fp).2.2.2.2.1)
    (fun s H C cl fp => (hb s H C cl fp).2.2.2.2.2) hs hs1).imp fun _ _ _ => lc2_rd hv hv1
end
end Ev

namespace Ev
open PySem PySem.Spec L2
open PyProof.Rows hiding St
/-! ### sorting: a twin of List.mergeSort that the kernel runs -/
def mgF {α : Type} (le : α → α → Bool) : Nat → List α → List α → List α
  | 0, _, _ => []
  | _ + 1, [], ys => ys
  | _ + 1, xs, [] => xs
  | n + 1, x :: xs, y :: ys => match le x y with
    | true => x :: mgF le n xs (y :: ys)
    | false => y :: mgF le n (x :: xs) ys
theorem mgF_eq {α : Type} (le : α → α → Bool) : ∀ (n : Nat) (xs ys : List α), xs.length + ys.length < n → mgF le n xs ys = List.merge xs ys le
  | 0, _, _, h => absurd h (by omega)
  | _ + 1, [], ys, _ => by simp [mgF]
  | _ + 1, x :: xs, [], _ => by simp [mgF]
  | n + 1, x :: xs, y :: ys, h => by
    unfold mgF
    simp only [List.length_cons] at h
    have h1 := mgF_eq le n xs (y :: ys) (by simp only [List.length_cons]; omega)
    have h2 := mgF_eq le n (x :: xs) ys (by simp only [List.length_cons]; omega)
    rw [List.cons_merge_cons]
    cases e : le x y with
    | true => simp [h1]
    | false => simp [h2]
def msF {α : Type} (le : α → α → Bool) : Nat → List α → List α
  | 0, _ => []
  | _ + 1, [] => []
  | _ + 1, [a] => [a]
  | n + 1, a :: b :: l => mgF le (l.length + 3) (msF le n ((a :: b :: l).take ((l.length + 3) / 2))) (msF le n ((a :: b :: l).drop ((l.length + 3) / 2)))
theorem msF_eq {α : Type} (le : α → α → Bool) : ∀ (n : Nat) (l : List α), l.length < n → msF le n l = l.mergeSort le
  | 0, _, h => absurd h (by omega)
  | _ + 1, [], _ => by simp [msF]
  | _ + 1, [a], _ => by simp [msF]
  | n + 1, a :: b :: l, h => by
    unfold msF
    simp only [List.length_cons] at h
    have h1 := msF_eq le n ((a :: b :: l).take ((l.length + 3) / 2)) (by simp only [List.length_take, List.length_cons]; omega)
    have h2 := msF_eq le n ((a :: b :: l).drop ((l.length + 3) / 2)) (by simp only [List.length_drop, List.length_cons]; omega)
    rw [h1, h2, List.mergeSort]
    rw [mgF_eq _ _ _ _ (by simp only [List.length_mergeSort, List.length_take, List.length_drop, List.length_cons]; omega)]
    simp [List.MergeSort.Internal.splitInTwo]
theorem mgF_map {α β : Type} (f : α → β) (le : α → α → Bool) (le' : β → β → Bool) (hf : ∀ a b, le' (f a) (f b) = le a b) : ∀ (n : Nat) (xs ys : List α), mgF le' n (xs.map f) (ys.map f) = (mgF le n xs ys).map f
  | 0, _, _ => rfl
  | _ + 1, [], ys => by simp [mgF]
  | _ + 1, x :: xs, [] => by simp [mgF]
  | n + 1, x :: xs, y :: ys => by
    simp only [List.map_cons, mgF]
    rw [hf]
    have h1 := mgF_map f le le' hf n xs (y :: ys)
    have h2 := mgF_map f le le' hf n (x :: xs) ys
    simp only [List.map_cons] at h1 h2
    cases e : le x y with
    | true => simp [h1]
    | false => simp [h2]
theorem msF_map {α β : Type} (f : α → β) (le : α → α → Bool) (le' : β → β → Bool) (hf : ∀ a b, le' (f a) (f b) = le a b) : ∀ (n : Nat) (l : List α), msF le' n (l.map f) = (msF le n l).map f
  | 0, _ => rfl
  | _ + 1, [] => rfl
  | _ + 1, [a] => rfl
  | n + 1, a :: b :: l => by
    have h1 := msF_map f le le' hf n ((a :: b :: l).take ((l.length + 3) / 2))
    have h2 := msF_map f le le' hf n ((a :: b :: l).drop ((l.length + 3) / 2))
    rw [List.map_take] at h1
    rw [List.map_drop] at h2
    show mgF le' ((l.map f).length + 3) (msF le' n (((a :: b :: l).map f).take (((l.map f).length + 3) / 2))) (msF le' n (((a :: b :: l).map f).drop (((l.map f).length + 3) / 2))) = _
    rw [List.length_map, h1, h2, mgF_map f le le' hf]
    rfl
theorem mgF_mem {α : Type} (le : α → α → Bool) : ∀ (n : Nat) (xs ys : List α) (z : α), z ∈ mgF le n xs ys → z ∈ xs ∨ z ∈ ys
  | 0, _, _, _, h => by cases h
  | _ + 1, [], ys, z, h => .inr (by simpa [mgF] using h)
  | _ + 1, x :: xs, [], z, h => .inl (by simpa [mgF] using h)
  | n + 1, x :: xs, y :: ys, z, h => by
    unfold mgF at h
    split at h
    · rcases List.mem_cons.mp h with e | h'
      · exact .inl (by rw [e]; exact List.mem_cons_self)
      · rcases mgF_mem le n xs (y :: ys) z h' with q | q
        · exact .inl (List.mem_cons_of_mem _ q)
        · exact .inr q
    · rcases List.mem_cons.mp h with e | h'
      · exact .inr (by rw [e]; exact List.mem_cons_self)
      · rcases mgF_mem le n (x :: xs) ys z h' with q | q
        · exact .inl q
        · exact .inr (List.mem_cons_of_mem _ q)
theorem msF_mem {α : Type} (le : α → α → Bool) : ∀ (n : Nat) (l : List α) (z : α), z ∈ msF le n l → z ∈ l
  | 0, _, _, h => by cases h
  | _ + 1, [], _, h => by cases h
  | _ + 1, [a], _, h => h
  | n + 1, a :: b :: l, z, h => by
    unfold msF at h
    rcases mgF_mem le _ _ _ z h with q | q
    · exact List.mem_of_mem_take (msF_mem le n _ z q)
    · exact List.mem_of_mem_drop (msF_mem le n _ z q)
/-! ### sorted of a tuple -/
section
variable {P : Program} {Wd : World} {Ar : Around} {Ee : Value → Shared → Prop} {t0 : Shared}
theorem collect_tup {l : Addr} {vls : List Value} {Q : List Value → Shared → Prop} (ht : t0.heap.IsTuple l vls.toArray) (lL : vls.length ≤ sizeLine)
    (h : Q vls { t0 with heap := (t0.heap.push (seqObj "list" #[] 0)).update t0.heap.objs.size (Obj.mapSeq (· ++ vls.toArray)) }) : wpAny (model P Wd) Ar (collect (.ref l)) Q Ee t0 := by
  obtain ⟨ob, go, gc, nn, gd⟩ := id ht
  unfold collect
  refine wpAny_bind (wpAny_runValue (codeAny_builtin entry_proto_collect' ?_)); show wpAny _ _ (do again (.builtin "list.__iadd__" ⟨[← newList [], .ref l], []⟩)) _ _ t0
  refine wpAny_bind (wpAny_newList (wpAny_pure ⟨Code.quiet_builtin _ (by decide +kernel), codeAny_builtin entry_list_iadd' ?_⟩)); show wpAny _ _ (Builtin.List.listExtendWith (.ref t0.heap.objs.size) (.ref l) (.ref t0.heap.objs.size)) _ _ { t0 with heap := t0.heap.push (seqObj "list" #[] 0) }
  unfold Builtin.List.listExtendWith; have go' : (t0.heap.push (seqObj "list" #[] 0)).get? l = some ob := Heap.get?_push_of_some _ go
  refine wpAny_bind (wpAny_typeOf (T := "tuple") ⟨ob, go', gc⟩ ?_)
  have tt : (Value.type "tuple" == Value.type "tuple") = true := by rfl
  rw [if_pos (by rw [tt]; simp)]
  refine wpAny_bind (listItems_at go' gd ?_); refine wpAny_bind (listItems_at (xs := #[]) (n := 0) (Heap.get?_push_size _ rfl) rfl ?_)
  rw [if_neg (by simp)]
  have zs : (#[] ++ vls.toArray).size ≤ sizeLine + 1 := by simp only [Array.size_append, List.size_toArray, List.length_nil]; omega
  refine wpAny_bind (listUpdate_at (xs := #[]) (n := 0) (Heap.get?_push_size _ rfl) rfl ?_ (Nat.zero_le _) zs)
  refine wpAny_pure ?_
  show wpAny (model P Wd) Ar (do let o ← load t0.heap.objs.size; match o.data with | .seq xs _ => pure xs.toList | _ => unsupported "internal:collect") Q Ee { t0 with heap := (t0.heap.push (seqObj "list" #[] 0)).update t0.heap.objs.size (Obj.mapSeq (· ++ vls.toArray)) }
  refine wpAny_bind (wpAny_load (get?_update_seq (Heap.get?_push_size _ rfl) _) ?_); show wpAny _ _ (pure ((#[] : Array Value) ++ vls.toArray).toList) Q Ee _
  rw [show ((#[] : Array Value) ++ vls.toArray).toList = vls by simp]
  exact wpAny_pure h
open PySem.W in
theorem sorted_of_tup {l : Addr} {vls : List Value} {kws : List (Str × Value)} {Q : Value → Shared → Prop} (isq : t0.heap.IsTuple l vls.toArray) (lL : vls.length ≤ sizeLine) (ok1 : argsOk "sorted" ⟨[.ref l], kws⟩) (ok2 : ∀ x, argsOk "list.sort" ⟨[.ref x], kws⟩)
    (body : ∀ E' : Value → Shared → Prop, wpAny (model P Wd) Ar.in1.in1 (Builtin.«list.sort» ⟨[.ref (t0.heap.objs.size + 1)], kws⟩) (fun f t => f = .done (.ret .none) ∧ Q (.ref (t0.heap.objs.size + 1)) t) E' { t0 with heap := copyHeap t0.heap vls }) :
    wpAny (model P Wd) Ar (call (.builtin "sorted") [.ref l] kws) Q Ee t0 := by
  refine call_function_entry_kw kind_sorted plain_sorted entry_sorted (ok1) ?_
  unfold Builtin.«sorted»
  refine wpAny_bind (m := checkCount "sorted" 1 1 _) (wpAny_pure (wpAny_bind (collect_tup isq lL ?_)))
  refine wpAny_bind (wpAny_newList ?_ lL)
  have zz : ((t0.heap.push (seqObj "list" #[] 0)).update t0.heap.objs.size (Obj.mapSeq (· ++ vls.toArray))).objs.size = t0.heap.objs.size + 1 := by rw [Heap.size_update, size_push']
  show wpAny _ _ _ _ _ { t0 with heap := copyHeap t0.heap vls }
  rw [zz]
  refine wpAny_bind (wpAny_holding (wpAny_call_entry_kw slot_list_sort ⟨_, copyHeap_at t0.heap vls, rfl⟩ entry_list_sort ?body (ok2 _)))
  case body =>
    show wpAny (model P Wd) Ar.in1.in1 (Builtin.«list.sort» ⟨[.ref (t0.heap.objs.size + 1)], kws⟩) _ _ _
    refine wpAny_mono (body _) (fun f t ⟨e1, q1⟩ => ?_) fun _ _ eR => eR
    subst e1
    exact ⟨_, rfl, wpAny_pure ⟨_, rfl, q1⟩⟩
open PySem.W in
theorem sorted_sq {b : Bool} {l : Addr} {β : Type} {vls : List Value} {bs : List β} {enc : β → PyData} {R : Value → β → Prop} {Q : Value → Shared → Prop} (isq : IsSq b t0.heap l vls.toArray) (eR : EachIs R vls bs) (eD : EachIs (fun v b => ∃ as, Reads t0.heap v (enc b) as) vls bs) (alk : AllAlike (bs.map enc)) (srt : Sortable (bs.map enc)) (lL : bs.length ≤ sizeLine)
    (dep : ∀ b, b ∈ bs → Ar.units + 2 + (enc b).depth < cLine) (h : ∀ out, out.length = bs.length → EachIs R out (bs.mergeSort (dataLe false enc)) → Q (.ref (t0.heap.objs.size + 1)) { t0 with heap := sortedAll t0.heap vls (List.toArray out) }) :
    wpAny (model P Wd) Ar (call (.builtin "sorted") [.ref l]) Q Ee t0 := by
  cases b with
  | true => exact sorted_data isq eR eD alk srt lL dep h
  | false =>
    have eD' : EachIs (fun v b => ∃ as, Reads (sortingHeap (copyHeap t0.heap vls) (t0.heap.objs.size + 1) vls) v (enc b) as) vls bs := eD.mono fun _ _ ⟨as, r⟩ => ⟨as, PyProof.Rows.Reads.keeps (fun _ _ => sorting_copy_old) r⟩
    have SA := SortsAt.data (prog := P) (w := Wd) (A := Ar.in1.in1) (s := { t0 with heap := sortingHeap (copyHeap t0.heap vls) (t0.heap.objs.size + 1) vls }) (each_map (R := fun v d => ∃ as, Reads (sortingHeap (copyHeap t0.heap vls) (t0.heap.objs.size + 1) vls) v d as) enc eD') alk srt (bound_map dep)
    refine sorted_of_tup isq (by rw [eR.length]; exact lL) (args_sorted1 _) (fun _ => args_list_sort _) fun _ => list_sort_vals (s := { t0 with heap := copyHeap t0.heap vls }) (copyHeap_at t0.heap vls) SA (by rw [eR.length]; exact lL) ⟨rfl, ?_⟩
    exact h _ (by rw [sortVals_length false rfl]; exact eR.length) (sortVals_data false eR eD' alk)
end
/-! ### sorted, of any alike data -/
def sortedV (xs : List V) (ds : List PyData) : List V := ((xs.zip ds).mergeSort (W.dataLe false (·.2))).map (·.1)
def rSortV (K : PySem.W.Frag) : List V → Hp → VK → Prop := fun vs H Q => ∃ b a xs ds, vs = [.ref a] ∧ Sq K b H a xs ∧ DpAll K H xs ds ∧ W.AllAlike ds ∧ W.Sortable ds ∧ (∀ d ∈ ds, d.depth ≤ 100) ∧ xs.length ≤ sizeLine ∧ ∀ p, H p = none → Q (.ref p) (upd H p (.lst (sortedV xs ds)))
theorem dpAll_len {K : PySem.W.Frag} {H : Hp} : ∀ {xs : List V} {ds : List PyData}, DpAll K H xs ds → xs.length = ds.length
  | _, _, .nil => rfl
  | _, _, .cons _ t => by rw [List.length_cons, List.length_cons, dpAll_len t]
theorem each_zip {X : Cx} {pins : List (Addr × Obj)} {σ : St} {H : Hp} {s : Shared} (I : Inv X pins σ H s) : ∀ {xs : List V} {ds : List PyData} {us : List Value}, Vals xs us → DpAll X.K H xs ds → W.EachIs (fun v (b : V × PyData) => RelV b.1 v) us (xs.zip ds) ∧ W.EachIs (fun v (b : V × PyData) => ∃ as, Reads s.heap v b.2 as) us (xs.zip ds)
  | _, _, _, .nil, .nil => ⟨.nil, .nil⟩
  | _, _, _, .cons r t, .cons d ds => by
    obtain ⟨h1, h2⟩ := each_zip I t ds
    exact ⟨.cons r h1, .cons (Dp.reads I _ _ _ d r) h2⟩
theorem each_vals : ∀ {us : List Value} {bs : List (V × PyData)}, W.EachIs (fun v (b : V × PyData) => RelV b.1 v) us bs → Vals (bs.map (·.1)) us
  | _, _, .nil => .nil
  | _, _, .cons r t => .cons r (each_vals t)
theorem cr_sortV {X : Cx} (hu : X.A.units + 110 < cLine) : CallR X (.builtin "sorted") (rSortV X.K) := by
  intro pl s σ H vs us Q I r h
  obtain ⟨b, a, xs, ds, rfl, hq, hd, ha, hk, hdep, hL, q⟩ := h
  obtain ⟨im, rv, p⟩ := sq_get I hq
  rw [Vals.ref1 r]
  obtain ⟨e1, e2⟩ := each_zip I rv hd
  have hlen := dpAll_len hd
  have hm : (xs.zip ds).map (·.2) = ds := by rw [List.map_snd_zip]; omega
  have hzl : (xs.zip ds).length = xs.length := by rw [List.length_zip]; omega
  refine sorted_sq (enc := fun b : V × PyData => b.2) p e1 e2 (by rw [hm]; exact ha) (by rw [hm]; exact hk) (by rw [hzl]; exact hL) (fun b hb => ?_) fun out ho hE => ?_
  · have : b.2 ∈ ds := by rw [← hm]; exact List.mem_map_of_mem hb
    have := hdep _ this
    omega
  · obtain ⟨ep, he'⟩ := PyProof.Rows.sortedAll_at s.heap im out.toArray
    have hl2 : (sortedV xs ds).length = xs.length := by unfold sortedV; rw [List.length_map, List.length_mergeSort, hzl]
    exact ⟨.ref _, upd H (s.heap.objs.size + 1) (.lst (sortedV xs ds)), I.laid (t' := s.toks) (fun _ _ => PyProof.Rows.sortedAll_old) (Nat.le_succ _) ⟨by rw [hl2]; exact hL, out, ep, each_vals hE, he'⟩, rfl, q _ (I.hok.fresh (Nat.le_succ _))⟩
def alikeB (ds : List PyData) : Bool := ds.all fun d => ds.all fun d' => W.alike d d'
def sortableB (ds : List PyData) : Bool := (ds.all fun d => match d with | .tuple (_ :: _) => true | _ => false) || (ds.all fun d => match d with | .none => false | .tuple _ => false | _ => true)
theorem sortableB_ok {ds : List PyData} (h : sortableB ds = true) : W.Sortable ds := by
  unfold sortableB at h
  rw [Bool.or_eq_true] at h
  rcases h with h | h
  · refine .inl fun d hd => ?_
    have hd' := List.all_eq_true.mp h d hd
    split at hd'
    · exact ⟨_, _, rfl⟩
    · cases hd'
  · refine .inr fun d hd => ?_
    have hd' := List.all_eq_true.mp h d hd
    split at hd'
    · cases hd'
    · cases hd'
    · rename_i h1 h2
      exact ⟨h1, fun xs e => h2 xs e⟩
def sortL (xs : List A) (h : Ah) : Rs A := match mapD (toD h 60) xs with
  | some ds => (match alikeB ds && (sortableB ds && (ds.all (fun d => Nat.ble d.depth 100) && lenOk xs)) with
    | true => .ok (.ref h.n) (h.push (.lst ((msF (W.dataLe false (·.2)) (xs.length + 1) (xs.zip ds)).map (·.1))))
    | false => .no)
  | none => .no
section
variable {g : Gl} {ρ : Nat → Addr} {n : Nat} {H : Hp}
theorem zip3 : ∀ {as : List A} {xs : List V} {ds : List PyData}, RVs g ρ n H as xs → as.length = ds.length → ∃ l : List (A × V × PyData), as.zip ds = l.map (fun t => (t.1, t.2.2)) ∧ xs.zip ds = l.map (fun t => (t.2.1, t.2.2)) ∧ (∀ t ∈ l, RV g ρ n H t.1 t.2.1) ∧ l.length = as.length
  | [], _, ds, r, e => ⟨[], by simp, by rw [r.unnil]; simp, by simp, rfl⟩
  | a :: as, _, [], r, e => by simp at e
  | a :: as, _, d :: ds, r, e => by
    obtain ⟨y, ys, rfl, r1, r2⟩ := r.uncons
    obtain ⟨l, h1, h2, h3, h4⟩ := zip3 r2 (by simpa using e)
    refine ⟨(a, y, d) :: l, by simp [h1], by simp [h2], fun t ht => ?_, by simp [h4]⟩
    rcases List.mem_cons.mp ht with q | q
    · rw [q]; exact r1
    · exact h3 t q
theorem rvs_of_map : ∀ {l : List (A × V × PyData)}, (∀ t ∈ l, RV g ρ n H t.1 t.2.1) → RVs g ρ n H (l.map (·.1)) (l.map (·.2.1))
  | [], _ => .nil
  | t :: l, h => .cons (h t List.mem_cons_self) (rvs_of_map fun u hu => h u (List.mem_cons_of_mem _ hu))
theorem sorted_rvs {as : List A} {xs : List V} {ds : List PyData} (r : RVs g ρ n H as xs) (e : as.length = ds.length) : RVs g ρ n H ((msF (W.dataLe false (·.2)) (as.length + 1) (as.zip ds)).map (·.1)) (sortedV xs ds) := by
  obtain ⟨l, h1, h2, h3, h4⟩ := zip3 r e
  have hx : sortedV xs ds = ((msF (W.dataLe false (·.2)) (as.length + 1) (xs.zip ds))).map (·.1) := by
    unfold sortedV
    rw [msF_eq]
    rw [List.length_zip, ← r.length]; omega
  rw [hx, h1, h2]
  rw [msF_map (fun t : A × V × PyData => (t.1, t.2.2)) (W.dataLe false (·.2.2)) (W.dataLe false (·.2)) (fun _ _ => rfl), msF_map (fun t : A × V × PyData => (t.2.1, t.2.2)) (W.dataLe false (·.2.2)) (W.dataLe false (·.2)) (fun _ _ => rfl)]
  rw [List.map_map, List.map_map]; exact rvs_of_map (l := msF (W.dataLe false (·.2.2)) (as.length + 1) l) fun t ht => h3 t (msF_mem _ _ _ _ ht)
theorem mapD_len {f : A → Option PyData} : ∀ {xs : List A} {ds : List PyData}, mapD f xs = some ds → xs.length = ds.length
  | [], _, e => by cases e; rfl
  | x :: xs, _, e => by
    unfold mapD at e
    split at e
    · rename_i h1 h2
      cases e
      simp [mapD_len h2]
    · cases e
end
theorem sort_ok {g : Gl} {K : PySem.W.Frag} {b : Bool} {W : WX} {ρ ρc : Nat → Addr} {n : Nat} {H Hc : Hp} {h : Ah} {σ : St} {Q : VK} {vs : List A} {ys : List V} {p : Addr} (e : Ext ρ n H ρc h.n Hc) (r : RH g ρc Hc h) (hq : Sq K b Hc p ys) (rv : RVs g ρc h.n Hc vs ys)
    (pp : Post g W ρ n H σ (VQ g Q) (sortL vs h)) : rSortV K [.ref p] Hc Q := by
  unfold sortL at pp
  split at pp
  · rename_i ds hds
    split at pp
    · rename_i hb
      simp only [Bool.and_eq_true] at hb
      obtain ⟨h1, h2, h3, h4⟩ := hb
      refine ⟨b, p, ys, ds, rfl, hq, mapD_all (fun a v d e rv => toD_ok r 60 a v d e rv) hds rv, fun d hd d' hd' => ?_, sortableB_ok h2, fun d hd => ?_, by rw [← rv.length]; exact lenOk.le h4, pp.lst e r (sorted_rvs rv (mapD_len hds))⟩
      · exact List.all_eq_true.mp (List.all_eq_true.mp h1 d hd) d' hd'
      · exact Nat.le_of_ble_eq_true (List.all_eq_true.mp h3 d hd)
    · exact pp.elim
  · exact pp.elim
theorem lo_sort {g : Gl} {K : PySem.W.Frag} : ListOk g K (rSortV K) sortL := fun _ _ _ _ _ _ _ _ _ _ _ _ e r hq rv p => sort_ok (b := true) e r hq rv p
def cSort : GL := fun vs h => match vs with
  | [.tup xs] => sortL xs h
  | [.ref k] => (match h.get k with
    | some (.lst xs) => sortL xs h
    | _ => .no)
  | _ => .no
theorem co_sort {g : Gl} {K : PySem.W.Frag} : CallOk g (rSortV K) cSort := by
  intro W ρ ρc n H Hc h σ Q vs xs e r rx p
  unfold cSort at p
  split at p
  · obtain ⟨y, rfl, ry⟩ := rx.one
    obtain ⟨q, ys, rfl, hq, rys⟩ := ry.tup'
    exact sort_ok (b := false) e r (.of hq) rys p
  · split at p
    · rename_i zs hk
      obtain ⟨y, rfl, ry⟩ := rx.one
      obtain ⟨_, rfl⟩ := ry.ref'
      obtain ⟨ys, hy, rys⟩ := r.lst hk
      exact sort_ok (b := true) e r (.of hy) rys p
    · exact p.elim
  · exact p.elim
theorem room_sort {k : Nat} {A : Around} (hr : Room k A) : A.units + 110 < cLine := by
  have := hr.un
  omega
end Ev

namespace Ev
open PySem PySem.Spec L2
open PyProof.Rows hiding St
/-! ### list(range(..)), tuple(range(..)) -/
def rgA (a b : Int) : List A := (List.range (b - a).toNat).map fun i => A.int (a + (i : Nat))
theorem rvs_rg {g : Gl} {ρ : Nat → Addr} {n : Nat} {H : Hp} (f : Nat → Int) : ∀ l : List Nat, RVs g ρ n H (l.map fun i => A.int (f i)) (l.map fun i => V.int (f i))
  | [] => .nil
  | i :: l => .cons rv_int (rvs_rg f l)
def rgB (a b : Int) : Bool := rngOk a && (rngOk b && Nat.ble (b - a).toNat 16777216)
theorem rgB_ok {a b : Int} (h : rgB a b = true) : RgOk a b := by
  simp only [rgB, Bool.and_eq_true] at h
  exact ⟨(rngOk.lo h.1).1, (rngOk.lo h.1).2, (rngOk.lo h.2.1).1, (rngOk.lo h.2.1).2, Nat.le_of_ble_eq_true h.2.2⟩
/-- the bounds of range(b), range(a, b) -/
def rgArgs : List A → Option (Int × Int)
  | [.int b] => some (0, b)
  | [.int a, .int b] => some (a, b)
  | _ => none
def fLstRg (fs : FA) : FE := fun s h => (fs s h).bind fun vs h1 => match rgArgs vs with
  | some (a, b) => (match rgB a b with
    | true => .ok (.ref h1.n) (h1.push (.lst (rgA a b)))
    | false => .no)
  | none => .no
def fTupRg (fs : FA) : FE := fun s h => (fs s h).bind fun vs h1 => match rgArgs vs with
  | some (a, b) => (match rgB a b with
    | true => .ok (.tup (rgA a b)) h1
    | false => .no)
  | none => .no
section
variable {X : Cx} {g : Gl} {W : WX} {pos p p2 q : Pos} {e a b : Expr} {fa fb : FE}
theorem rg1 {σ : St} {H : Hp} {Q : VK} {R : Int → Int → Hp → Prop} {ρ : Nat → Addr} {n : Nat} {k : List A → Ah → Rs A} {Qb : A → (Nat → Addr) → Ah → Hp → Prop} {s : Sa} {h : Ah} {H0 : Hp} (rs : RS g ρ h.n H s σ) (r : RH g ρ H h) (p : Post g W ρ h.n H σ Qb ((fCons fa fNil s h).bind k))
    (qq : ∀ i ρ1 h1 H1, Ext ρ h.n H ρ1 h1.n H1 → RH g ρ1 H1 h1 → Post g W ρ h.n H σ Qb (k [.int i] h1) → R 0 i H1) (ni : ∀ v h1, (∀ i, v ≠ A.int i) → k [v] h1 = .no) : tRg1 (rdE g W fa) σ H R := by
  have e : (fCons fa fNil s h).bind k = (fa s h).bind fun x h1 => k [x] h1 := by
    unfold fCons fNil
    cases fa s h <;> rfl
  rw [e] at p
  refine rdE.seq (σ' := σ) rs r .refl p fun v x ρ1 h1 H1 e1 r1 rx p1 => ?_
  cases v with
  | int i => cases rx.int'; exact ⟨i, rfl, qq i ρ1 h1 H1 e1 r1 p1⟩
  | _ => rw [ni _ _ (fun i z => by cases z)] at p1; exact p1.elim
theorem ee_listRg1 (hc : X.calm = true) (hg : L2.Gl X "list") (hm : X.mg "list" = none) (hg2 : L2.Gl X "range") (hm2 : X.mg "range" = none) (ha : PE X a (rdE g W fa)) (na : starEach [a] X.env = (false, eval a X.env) :: starEach [] X.env := by rfl)
    (nb : starEach [.Call (.Name "range" p2) [a] [] q] X.env = (false, eval (.Call (.Name "range" p2) [a] [] q) X.env) :: starEach [] X.env := by rfl) :
    PE X (.Call (.Name "list" p) [.Call (.Name "range" p2) [a] [] q] [] pos) (rdE g W (fLstRg (fCons fa fNil))) :=
  (pe_listRg hc hg hm (prg_1 hg2 hm2 ha na) nb).imp fun σ H Q ⟨ρ, s, h, rs, r, pp⟩ => rg1 (Q := Q) (H0 := H) (n := 0) rs r pp (fun i ρ1 h1 H1 e1 r1 p1 => by
    simp only [rgArgs] at p1
    split at p1
    · rename_i hb
      exact ⟨rgB_ok hb, p1.lst e1 r1 (rvs_rg (fun k => 0 + (k : Nat)) _)⟩
    · exact p1.elim) fun v h1 hv => by cases v <;> first | rfl | exact absurd rfl (hv _)
theorem ee_tupRg1 (hc : X.calm = true) (hg : L2.Gl X "tuple") (hm : X.mg "tuple" = none) (hg2 : L2.Gl X "range") (hm2 : X.mg "range" = none) (ha : PE X a (rdE g W fa)) (na : starEach [a] X.env = (false, eval a X.env) :: starEach [] X.env := by rfl)
    (nb : starEach [.Call (.Name "range" p2) [a] [] q] X.env = (false, eval (.Call (.Name "range" p2) [a] [] q) X.env) :: starEach [] X.env := by rfl) :
    PE X (.Call (.Name "tuple" p) [.Call (.Name "range" p2) [a] [] q] [] pos) (rdE g W (fTupRg (fCons fa fNil))) :=
  (pe_tupRg hc hg hm (prg_1 hg2 hm2 ha na) nb).imp fun σ H Q ⟨ρ, s, h, rs, r, pp⟩ => rg1 (Q := Q) (H0 := H) (n := 0) rs r pp (fun i ρ1 h1 H1 e1 r1 p1 => by
    simp only [rgArgs] at p1
    split at p1
    · rename_i hb
      exact ⟨rgB_ok hb, p1.tup e1 r1 (rvs_rg (fun k => 0 + (k : Nat)) _)⟩
    · exact p1.elim) fun v h1 hv => by cases v <;> first | rfl | exact absurd rfl (hv _)
end
/-! ### remove, of a list of ints -/
def findI (k : Int) : List Int → Option Nat
  | [] => none
  | x :: xs => match decide (x = k) with
    | true => some 0
    | false => (match findI k xs with
      | some j => some (j + 1)
      | none => none)
theorem findI_ok {k : Int} : ∀ {xs : List Int} {j : Nat}, findI k xs = some j → xs[j]? = some k ∧ ∀ m : Nat, m < j → xs[m]? ≠ some k
  | [], _, h => by cases h
  | x :: xs, j, h => by
    unfold findI at h
    split at h
    · rename_i e
      cases h
      exact ⟨by rw [of_decide_eq_true e]; rfl, fun m hm => by omega⟩
    · rename_i e
      split at h
      · rename_i j' hj
        cases h
        obtain ⟨h1, h2⟩ := findI_ok hj
        refine ⟨by simpa using h1, fun m hm => ?_⟩
        cases m with
        | zero => intro z; have z : x = k := by simpa using z
                  exact absurd z (of_decide_eq_false e)
        | succ m => simpa using h2 m (by omega)
      · cases h
def mRemove : GM := fun v vs h => match v, vs with
  | .ref k, [.int i] => (match h.get k with
    | some (.lst xs) => (match intsOf xs with
      | some ns => (match findI i ns with
        | some j => .ok .non (h.set k (.lst (xs.eraseIdx j)))
        | none => .no)
      | none => .no)
    | _ => .no)
  | _, _ => .no
theorem map_eraseIdx {α β : Type} (f : α → β) : ∀ (l : List α) (j : Nat), (l.map f).eraseIdx j = (l.eraseIdx j).map f
  | [], _ => by simp
  | a :: l, 0 => by simp
  | a :: l, j + 1 => by simp [map_eraseIdx f l j]
theorem mo_remove {g : Gl} : MetOk g rRemI mRemove := by
  intro W ρ ρc n H Hc h σ Q v x vs xs e r rx rxs p
  unfold mRemove at p
  split at p
  · rename_i k i
    split at p
    · rename_i zs hk
      split at p
      · rename_i ns hns
        split at p
        · rename_i j hj
          obtain ⟨hlt, rfl⟩ := rx.ref'
          obtain ⟨ys, hy, rys⟩ := r.lst hk
          obtain ⟨y', rfl, ry⟩ := rxs.one
          cases ry.int'
          have ey := intsOf_ok hns rys
          subst ey
          obtain ⟨q1, q2⟩ := findI_ok hj
          refine ⟨_, ns, i, j, rfl, rfl, hy, q1, q2, ?_⟩
          rw [← map_eraseIdx]
          exact p.set e r hlt hy (rys.eraseIdx j) rv_non
        · exact p.elim
      · exact p.elim
    · exact p.elim
  · exact p.elim
/-! ### len(set(a list of ints)) -/
def tLenSet (K : PySem.W.Frag) (ta : TE) : TE := fun σ H Q => ta σ H fun x H1 => ∃ (l : Addr) (ns : List Int), x = V.ref l ∧ SqL K H1 l (ns.map V.int) ∧ ns.length < 4000 ∧ Q (.int (PyProof.Rows.firstMet (fun i => ns.getD i 0) ns.length).length) H1
section
variable {X : Cx} {g : Gl} {W : WX} {pos p p2 q : Pos} {a : Expr} {fa : FA}
theorem pe_lenSet0 {ta : TE} (hc : X.calm = true) (hg : L2.Gl X "len") (hm : X.mg "len" = none) (hg2 : L2.Gl X "set") (hm2 : X.mg "set" = none) (ha : PE X a ta) (na : starEach [a] X.env = (false, eval a X.env) :: starEach [] X.env := by rfl) :
    PE X (.Call (.Name "len" p) [.Call (.Name "set" p2) [a] [] q] [] pos) (tLenSet X.K ta) := by
  refine ⟨fun pl s σ H Q I h => Call_ (ld_blt I hg hm PySem.boot_len (PyProof.Rows.callWith_builtin1 (PyProof.Rows.args_cons (Call_ (ld_blt I hg2 hm2 PyProof.Rows.boot_set ?_)) rfl) rfl rfl))⟩
  refine PyProof.Rows.callWith_type1 (PyProof.Rows.args_cons (thn (ha.run pl s σ H _ I h) fun v sB ⟨x, HB, IB, rB, qB⟩ => PyProof.Rows.args_nil ?_) na) na rfl
  obtain ⟨l, ns, rfl, sq, hL, qB⟩ := qB
  cases rB
  obtain ⟨im, rv, pl', hz⟩ := IB.list sq
  have hl : im.toArray.size = ns.length := by rw [List.size_toArray, ← rv.length, List.length_map]
  refine call_set_list (IB.ok.hd hc) pl'.isList (ns := ns) (by simpa using rv.ints) (by rw [hl]; unfold scanBound; omega) fun h' tk hS hk => ?_
  rw [hl] at hS
  have hle := PyProof.Rows.firstMet_length_le (fun i => ns.getD i 0) ns.length
  obtain ⟨o, es, ep, t, ho, hex, hd, _, _, _, fit, hn⟩ := hS
  have I2 : Inv X pl σ HB { sB with heap := h', toks := tk } := IB.kept fun b o e => hk b o (Heap.lt_size e) e
  exact PyProof.Rows.args_nil (call_len_set ho hex hd fit (by rw [hn]; omega) ⟨.int _, HB, I2.tok _, ⟨_, by rw [hn]⟩, qB⟩)
def distinctI (xs : List A) (h : Ah) : Rs A := match intsOf xs with
  | some ns => (match Nat.blt ns.length 4000 with
    | true => .ok (.int (PyProof.Rows.firstMet (fun i => ns.getD i 0) ns.length).length) h
    | false => .no)
  | none => .no
def lsetA (v : A) (h : Ah) : Rs A := match v with
  | .ref k => (match h.get k with
    | some (.lst xs) => distinctI xs h
    | _ => .no)
  | _ => .no
theorem distinct_ok {ρ ρc : Nat → Addr} {n : Nat} {H Hc : Hp} {h : Ah} {σ : St} {Q : VK} {xs : List A} {ys : List V} {K : PySem.W.Frag} {l : Addr} (e : Ext ρ n H ρc h.n Hc) (r : RH g ρc Hc h) (hq : SqL K Hc l ys) (rv : RVs g ρc h.n Hc xs ys) (p : Post g W ρ n H σ (VQ g Q) (distinctI xs h)) :
    ∃ (l' : Addr) (ns : List Int), V.ref l = V.ref l' ∧ SqL K Hc l' (ns.map V.int) ∧ ns.length < 4000 ∧ Q (.int (PyProof.Rows.firstMet (fun i => ns.getD i 0) ns.length).length) Hc := by
  unfold distinctI at p
  split at p
  · rename_i ns hns
    split at p
    · rename_i hl
      have ey := intsOf_ok hns rv
      subst ey
      exact ⟨l, ns, rfl, hq, Nat.blt_eq.mp hl, p.now e r _ rv_int⟩
    · exact p.elim
  · exact p.elim
theorem ee_lenSet {f : FE} (hc : X.calm = true) (hg : L2.Gl X "len") (hm : X.mg "len" = none) (hg2 : L2.Gl X "set") (hm2 : X.mg "set" = none) (ha : PE X a (rdE g W f)) (na : starEach [a] X.env = (false, eval a X.env) :: starEach [] X.env := by rfl) :
    PE X (.Call (.Name "len" p) [.Call (.Name "set" p2) [a] [] q] [] pos) (rdE g W fun s h => (f s h).bind lsetA) := (pe_lenSet0 hc hg hm hg2 hm2 ha na).imp fun σ H Q ⟨ρ, s, h, rs, r, pp⟩ => rdE.seq (σ' := σ) rs r .refl (k := lsetA) pp fun v x ρ1 h1 H1 e1 r1 rx p1 => by
  unfold lsetA at p1
  split at p1
  · split at p1
    · rename_i zs hk
      obtain ⟨_, rfl⟩ := rx.ref'
      obtain ⟨ys, hy, rys⟩ := r1.lst hk
      exact distinct_ok e1 r1 (.of hy) rys p1
    · exact p1.elim
  · exact p1.elim
theorem ee_lenSetL (hc : X.calm = true) (hg : L2.Gl X "len") (hm : X.mg "len" = none) (hg2 : L2.Gl X "set") (hm2 : X.mg "set" = none) (ha : PE X a (rdL g W fa)) (na : starEach [a] X.env = (false, eval a X.env) :: starEach [] X.env := by rfl) :
    PE X (.Call (.Name "len" p) [.Call (.Name "set" p2) [a] [] q] [] pos) (rdE g W (fCallL distinctI fa)) := (pe_lenSet0 hc hg hm hg2 hm2 ha na).imp fun σ H Q ⟨ρ, s, h, rs, r, pp⟩ =>
  ⟨ρ, s, h, rs, r, Post.seq .refl pp fun xs ρ1 h1 H1 _ e1 r1 p1 l ys _ hq _ rys => distinct_ok e1 r1 (.of hq) rys p1⟩
end
end Ev

namespace Ev
open PySem PySem.Spec L2
open PyProof.Rows hiding St
/-! ### xs[::-1] of a list -/
def fRevL (f : FE) : FE := fun s h => (f s h).bind fun v h1 => match v with
  | .ref k => (match h1.get k with
    | some (.lst xs) => .ok (.ref h1.n) (h1.push (.lst xs.reverse))
    | _ => .no)
  | _ => .no
section
variable {X : Cx} {g : Gl} {W : WX} {pos p1 p2 p3 : Pos} {e : Expr} {f : FE} {k : Nat}
theorem ee_revL (he : PE X e (rdE g W f)) : PE X (.Subscript e (.Slice none none (some (.UnaryOp .USub (.Constant (.int 1) k p1) p2)) p3) pos) (rdE g W (fRevL f)) :=
  (pe_revL he).imp fun σ H Q ⟨ρ, s, h, rs, r, pp⟩ => rdE.seq (σ' := σ) rs r .refl pp fun v x ρ1 h1 H1 e1 r1 rx p1 => by
    split at p1
    · split at p1
      · rename_i xs hk
        obtain ⟨_, rfl⟩ := rx.ref'
        obtain ⟨ys, hy, rys⟩ := r1.lst hk
        exact ⟨_, ys, rfl, .of hy, p1.lst e1 r1 rys.reverse⟩
      · exact p1.elim
    · exact p1.elim
end
/-! ### several except clauses, without names -/
def tryHs (nE : Nat) : List ((Nat → Bool) × FS) → Nat → Sa → Ah → RsS
  | [], j, s, h => .ex j s h
  | (sub, fsu) :: r, j, s, h => match sub j with
    | false => tryHs nE r j s h
    | true => (match fsu s h with
      | .ex _ _ _ => .no
      | r => r)
def fTryMany (nE : Nat) (l : List ((Nat → Bool) × FS)) (fb : FS) : FS := fun s h => match fb s h with
  | .ex j s' h' => (match Nat.blt j nE with
    | false => .no
    | true => tryHs nE l j s' h')
  | .nx s h => .nx s h
  | .rt a h => .rt a h
  | .bk s h => .bk s h
  | .ct s h => .ct s h
  | .no => .no
/-- the clauses as they are read -/
inductive Hds (X : Cx) (g : Gl) (nE : Nat) : List ExceptHandler → List ((Nat → Bool) × FS) → List (Value × (Addr → Value → Option Addr → TS)) → Prop
  | nil : Hds X g nE [] [] []
  | cons {x : Str} {jc : Nat} {b₀ : Stmt} {suite : List Stmt} {np pos' : Pos} {hds : List ExceptHandler} {sub : Nat → Bool} {fsu : FS} {l : List ((Nat → Bool) × FS)} {tl : List (Value × (Addr → Value → Option Addr → TS))} (hc : Names X x (.ref (g.ca jc)))
      (hsub : ∀ j, j < nE → PySem.W.exmOne X.K (.ref (g.ca j)) (.ref (g.ca jc)) = some (sub j))
      (hsu : ∀ (a : Addr) (oe : Obj) (pn : List (Addr × Obj)), PSs (X.suite a ((a, oe) :: pn)) (b₀ :: suite) (rdS g noW fsu)) (r : Hds X g nE hds l tl) :
      Hds X g nE (.ExceptHandler (some (.Name x np)) none (b₀ :: suite) pos' :: hds) ((sub, fsu) :: l) ((.ref (g.ca jc), fun _ _ _ => rdS g noW fsu) :: tl)
section
variable {X : Cx} {g : Gl} {W : WX} {nE : Nat} {body : List Stmt} {pos : Pos} {fb : FS}
theorem Hds.ok {hds : List ExceptHandler} {l : List ((Nat → Bool) × FS)} {tl : List (Value × (Addr → Value → Option Addr → TS))} (h : Hds X g nE hds l tl) : HdsOk X hds tl := by
  induction h with
  | nil => exact .nil
  | cons hc hsub hsu r ih => exact .cons hc (fun a oe cls d pn _ _ => hsu a oe pn) ih
theorem hds_wish {hds : List ExceptHandler} {l : List ((Nat → Bool) × FS)} {tl : List (Value × (Addr → Value → Option Addr → TS))} {D : Ends} {ρ ρ' : Nat → Addr} {n : Nat} {H H' : Hp} {j : Nat} {s' : Sa} {h' : Ah} {σ' : St} (hh : Hds X g nE hds l tl) (hj : j < nE)
    (p : PostS g W ρ n H D (tryHs nE l j s' h')) (e' : Ext ρ n H ρ' h'.n H') (r' : RH g ρ' H' h') (rs' : RS g ρ' h'.n H' s' σ') : wMany X.K W D tl (.ref (g.ca j)) none σ' H' := by
  induction hh with
  | nil => exact p ρ' H' σ' e' r' rs'
  | @cons x jc b₀ suite np pos' hds sub fsu l tl hc hsub hsu r ih =>
    unfold tryHs at p
    refine ⟨sub j, hsub j hj, fun hb1 a na => ⟨ρ', s', h', rs', r', ?_⟩, fun hb0 => ?_⟩
    · rw [hb1] at p
      simp only at p
      cases qs : fsu s' h' with
      | nx s2 h2 => simp only [qs] at p; exact fun ρ2 H2 σ2 e2 r2 rs2 => p ρ2 H2 σ2 (e'.trans e2) r2 rs2
      | rt s2 h2 => simp only [qs] at p; exact fun ρ2 H2 σ2 e2 r2 rs2 => p ρ2 H2 σ2 (e'.trans e2) r2 rs2
      | bk s2 h2 => simp only [qs] at p; exact fun ρ2 H2 σ2 e2 r2 rs2 => p ρ2 H2 σ2 (e'.trans e2) r2 rs2
      | ct s2 h2 => simp only [qs] at p; exact fun ρ2 H2 σ2 e2 r2 rs2 => p ρ2 H2 σ2 (e'.trans e2) r2 rs2
      | no => simp only [qs] at p; exact p
      | ex _ _ _ => simp only [qs] at p; exact p.elim
    · rw [hb0] at p
      exact ih p
theorem es_tryMany {h₀ : ExceptHandler} {hds : List ExceptHandler} {l : List ((Nat → Bool) × FS)} {tl : List (Value × (Addr → Value → Option Addr → TS))} (hs : X.stack = X.env :: X.outer) (hf : X.env.frame = some X.env.locals) (tk : Takes X W) (hh : Hds X g nE (h₀ :: hds) l tl)
    (hb : ∀ (W : WX) (pn : List (Addr × Obj)) (xe : Value → Shared → Prop), Takes (X.tr pn xe) W → PassesOwn (model X.prog X.w) X.A X.env xe → PSs (X.tr pn xe) body (rdS g W fb)) :
    PS X (.Try body (h₀ :: hds) [] [] pos) (rdS g W (fTryMany nE l fb)) :=
  (ps_try_many (tb := fun W => rdS g W fb) hs hf tk hb hh.ok).imp fun D σ H ⟨ρ, s, h, rs, r, p⟩ => by
    refine ⟨ρ, s, h, rs, r, ?_⟩
    unfold fTryMany at p
    cases q : fb s h with
    | nx s' h' => simp only [q] at p; exact p
    | rt s' h' => simp only [q] at p; exact p
    | bk s' h' => simp only [q] at p; exact p
    | ct s' h' => simp only [q] at p; exact p
    | no => simp only [q] at p; exact p.elim
    | ex j s' h' =>
      simp only [q] at p
      intro ρ' H' σ' e' r' rs'
      split at p
      · exact p.elim
      · rename_i hj
        exact hds_wish hh (Nat.blt_eq.mp hj) p e' r' rs'
end
end Ev
namespace Ev
open PySem PySem.Spec L2
open PyProof.Rows hiding St
/-! ### extend, by a list or a tuple -/
open AutoSeq1 in
theorem ext_tup (l : Addr) (us : Array Value) (n : Nat) (b : Addr) (ws : Array Value) (n2 : Nat) (od : Option Addr) (sl : Array (Option Value)) (hs0 : ¬(!us.isEmpty && Builtin.List.listTooLong (us.size + ws.size)) = true) (hs1 : us.size ≤ sizeLine) (hs2 : us.size + ws.size ≤ sizeLine + 1) :
    Meets (Builtin.«list.extend» ⟨[.ref l, .ref b], []⟩) (fun _ R s => s.heap.get? l = some { cls := .type "list", dict := none, data := .seq us n, slots := #[] } ∧ s.heap.get? b = some { cls := .type "tuple", dict := od, data := .seq ws n2, slots := sl } ∧ R (.ok (.ret Value.none)) { s with heap := s.heap.update l (Obj.mapSeq fun x => x ++ ws), toks := s.toks }) :=
  .of_wp fun prog w A R s ⟨hl, hb, h⟩ => by
    obtain ⟨hp, gn, d, tk, os⟩ := s
    have f1 := idx_int
    have tt := AutoSeq1.sub_tuple_tuple; have ll := AutoSeq1.sub_list_list
    have f4 := AutoSeq1.sub_tuple_list
    have f5 := AutoSeq1.sub_list_tuple
    have hz' : (us ++ ws).size ≤ sizeLine + 1 := by rw [Array.size_append]; exact hs2
    wp_walk using (wpAny_updateSeq hl rfl (hz := hs1) (_hz' := hz')), wpAny_loadPart' hl, wpAny_loadPart' hb
    exact ⟨_, rfl, h⟩
def rExtendT (K : PySem.W.Frag) : V → List V → Hp → VK → Prop := fun x vs H Q => ∃ l b xs zs, x = .ref l ∧ vs = [.ref b] ∧ H l = some (.lst xs) ∧ H b = some (.tup zs) ∧ xs.length + zs.length ≤ sizeLine ∧ Q .non (upd H l (.lst (xs ++ zs)))
theorem mt_extendT {X : Cx} : MtR X "list.extend" (rExtendT X.K) := by
  intro pl s σ H x xs v us Q I rx rv h
  obtain ⟨l, b, xs, zs, rfl, rfl, hL, hT, lz, q⟩ := h
  cases rx
  obtain ⟨u, rfl, ru⟩ := rv.one
  cases ru
  obtain ⟨z, im, n, r, hl, e⟩ := I.lstM hL
  obtain ⟨z2, im2, r2, ob, e2, c2, n2, d2⟩ := (show ObjOk X.prog X.w H s.heap b (.tup zs) from I.hok b _ hT)
  obtain ⟨oc, od, dt, sl⟩ := ob
  simp only at c2 d2
  subst c2 d2
  have l1 := r.length
  have l2 := r2.length
  have hs : im.toArray.size + im2.toArray.size ≤ sizeLine := by rw [List.size_toArray, List.size_toArray]; omega
  have hlong : ¬ (!im.toArray.isEmpty && Builtin.List.listTooLong (im.toArray.size + im2.toArray.size)) = true := by rw [notLongL hs, Bool.and_false]; exact Bool.false_ne_true
  refine call_meets F.slot_list_extend ⟨_, e, rfl⟩ F.entry_list_extend (F.args_list_extend_2 _ _) (ext_tup l im.toArray n b im2.toArray n2 od sl hlong (by rw [List.size_toArray]; omega) (by omega)) ⟨e, e2, ?_⟩
  · refine ⟨.non, _, I.lset (its' := im ++ im2) hL e (by simp) (r.append r2) ?_, rfl, q⟩
    rw [List.length_append]
    omega
def mExtendA : GM := fun v vs h => match v, vs with
  | .ref k, [.ref j] => (match h.get k, h.get j with
    | some (.lst xs), some (.lst ys) => (match lenOk (xs ++ ys) with
      | true => .ok .non (h.set k (.lst (xs ++ ys)))
      | false => .no)
    | _, _ => .no)
  | .ref k, [.tup ys] => (match h.get k with
    | some (.lst xs) => (match lenOk (xs ++ ys) with
      | true => .ok .non (h.set k (.lst (xs ++ ys)))
      | false => .no)
    | _ => .no)
  | _, _ => .no
theorem mo_extendA {g : Gl} {K : PySem.W.Frag} : MetOk g (fun x xs H Q => rExtend x xs H Q ∨ rExtendT K x xs H Q) mExtendA := by
  intro W ρ ρc n H Hc h σ Q v x vs xs e r rx rxs p
  unfold mExtendA at p
  split at p
  · rename_i k j
    split at p
    · rename_i zs ws hk hj
      split at p
      · rename_i hl
        obtain ⟨hlt, rfl⟩ := rx.ref'
        obtain ⟨ys, hy, rys⟩ := r.lst hk
        obtain ⟨y', rfl, ry⟩ := rxs.one
        obtain ⟨_, rfl⟩ := ry.ref'
        obtain ⟨us, hu, rus⟩ := r.lst hj
        exact .inl ⟨_, _, ys, us, rfl, rfl, hy, hu, by rw [← rys.length, ← rus.length, ← List.length_append]; exact lenOk.le hl, p.set e r hlt hy (rys.append rus) rv_non⟩
      · exact p.elim
    · exact p.elim
  · rename_i k ws
    split at p
    · rename_i zs hk
      split at p
      · rename_i hl
        obtain ⟨hlt, rfl⟩ := rx.ref'
        obtain ⟨ys, hy, rys⟩ := r.lst hk
        obtain ⟨y', rfl, ry⟩ := rxs.one
        obtain ⟨q, us, rfl, hu, rus⟩ := ry.tup'
        exact .inr ⟨_, _, ys, us, rfl, rfl, hy, hu, by rw [← rys.length, ← rus.length, ← List.length_append]; exact lenOk.le hl, p.set e r hlt hy (rys.append rus) rv_non⟩
      · exact p.elim
    · exact p.elim
  · exact p.elim
end Ev

namespace Ev
open PySem PySem.Spec L2
open PyProof.Rows hiding St
/-! ### what a law's own helpers of the script promise -/
/-- the cells: one whole number -/
def spCells (K : PySem.W.Frag) : Sp := fun vs H Q _ => ∃ (a : Addr) (ns : List Int), vs = [.ref a, .int 1] ∧ SqL K H a (ns.map V.int) ∧ ns.length ≤ 63 ∧ ∀ H' p i, H' p = some (.lst [.int i]) → Q (.ref p) H'
/-- the box: three whole numbers, the last one 0 -/
def spBox : Sp := fun vs H Q _ => ∃ (a : Addr) (i : Int), vs = [.ref a, .int 0] ∧ H a = some (.lst [.int i]) ∧ ∀ H' p j k, H' p = some (.lst [.int j, .int k, .int 0]) → Q (.ref p) H'
/-- a draw: a number below m; the box goes on -/
def spTake : Sp := fun vs H Q _ => ∃ (a : Addr) (i j : Int) (k m : Nat), vs = [.ref a, .int m] ∧ H a = some (.lst [.int i, .int j, .int k]) ∧ 0 < m ∧ m < 1000000000 ∧ k < 1000000000 ∧
  ∀ (r : Nat) (i' : Int) (k' : Nat), r < m → k' ≤ k + 1 → Q (.int r) (upd H a (.lst [.int i', .int j, .int k']))
theorem atI0 {x y z : V} : atI [x, y, z] 0 = some x := rfl
theorem atI1 {x y z : V} : atI [x, y, z] 1 = some y := rfl
theorem atI2 {x y z : V} : atI [x, y, z] 2 = some z := rfl
abbrev N64 : Int := 2 ^ 64
theorem small_l {i j : Int} (h1 : -(2 ^ 64) < i) (h2 : i < 2 ^ 64) : CMul i j := .inl ⟨h1, h2⟩
theorem small_r {i j : Int} (h1 : -(2 ^ 64) < j) (h2 : j < 2 ^ 64) : CMul i j := .inr ⟨h1, h2⟩
theorem same_sq {K : PySem.W.Frag} {H : Hp} {a p : Addr} {o : HO} {xs : List V} (hp : H p = none) (h : SqL K H a xs) : SqL K (upd H p o) a xs := by
  rcases h with (h | ⟨u, h⟩) | h
  · exact .inl (.inl (by rw [upd_ne (ne_of_none h hp)]; exact h))
  · exact .inl (.inr ⟨u, by rw [upd_ne (ne_of_none h hp)]; exact h⟩)
  · exact .inr h
theorem cut_first (x : Int) (r : List Int) : cutV ((x :: r).map V.int) none (some 1) = [.int x] := by
  unfold cutV
  rw [show HT.sIx ((x :: r).map V.int).length 0 none = 0 from HT.sIx_none _ _, show HT.sIx ((x :: r).map V.int).length ((x :: r).map V.int).length (some 1) = min 1 ((x :: r).map V.int).length from HT.sIx_nat _ _ 1]
  simp
end Ev
namespace Ev
open PySem PySem.Spec L2
open PyProof.Rows hiding St
/-! ### the end of a law that draws -/
def spDraw (K : PySem.W.Frag) : Sp := fun vs H Q _ => ∃ (a : Addr) (ns : List Int), vs = [.ref a] ∧ SqL K H a (ns.map V.int) ∧ ns.length ≤ 63 ∧ ∀ H', Q (.bl true) H'
theorem spA_true {g : Gl} {np : Nat} {C : GL} {as : List A} {vs : List V} {H : Hp} {Q : VK} {E : XK} (hg : good (C as Ah.nil) = true) (rv : RVs g (fun _ => 0) 0 H as vs) (l : vs.length = np) (q : ∀ H', Q (.bl true) H') : spA g np C vs H Q E := by
  refine ⟨fun _ => 0, Ah.nil, as, RH.nil g _ H, rv, l, ?_⟩
  unfold good at hg
  split at hg
  · rename_i h' e
    rw [e]
    intro ρ' H' _ _ x rx
    cases rx.bl'
    exact q H'
  · cases hg
def goodS : RsS → Bool
  | .rt (.bl true) _ => true
  | _ => false
theorem rdS_true {g : Gl} {W : WX} {f : FS} {s : Sa} {σ : St} {H : Hp} {D : Ends} (hg : goodS (f s Ah.nil) = true) (rs : RS g (fun _ => 0) 0 H s σ) (q : ∀ H', D.rt (.bl true) H') : rdS g W f D σ H := by
  refine ⟨fun _ => 0, s, Ah.nil, rs, RH.nil g _ H, ?_⟩
  unfold goodS at hg
  split at hg
  · rename_i h' e
    rw [e]
    intro ρ' H' v _ _ rv
    cases rv.bl'
    exact q H'
  · cases hg
theorem rv_opq {g : Gl} {ρ : Nat → Addr} {n : Nat} {H : Hp} {v : V} : RV g ρ n H .opq v := by unfold RV; trivial
theorem all_lt {f : Nat → Bool} {m r : Nat} (h : (List.range m).all f = true) (hr : r < m) : f r = true := List.all_eq_true.mp h r (List.mem_range.mpr hr)
end Ev

namespace Ev
open PySem PySem.Spec L2
open PyProof.Rows hiding St

/-! ### exceptions that leave a comprehension -/
/-- an exception over the frame F, t the state without it -/
def Air (X : Cx) (F : Addr) (W : WX) (u : Value) (z : Shared) : Prop :=
  ∃ (a : Addr) (B : Heap) (t : Shared) (pins : List (Addr × Obj)) (σ : St) (H : Hp) (cl : Value) (d : Option Addr),
    u = .ref a ∧ Inv X pins σ H t ∧ (∀ b o, t.heap.get? b = some o → b ∉ frs X.stack → B.get? b = some o) ∧ t.heap.UpToSlots z.heap ∧
      Sky B X.stack a (Zc cl d) F z.heap ∧ H a = none ∧ z.os = t.os ∧ AllBare z.gens ∧ W cl d σ H
structure Pas (X : Cx) (W : WX) : Prop where
  ex : ∃ (F : Addr) (f : Env) (o : List Env), X.stack = f :: o ∧ f.frame = some F ∧ X.env.frame = some F ∧ ∀ u z, Air X F W u z → X.xe u z
theorem pas_of {X : Cx} {W : WX} (tk : Takes X W) (hs : X.stack = X.env :: X.outer) (hf : X.env.frame = some X.env.locals) : Pas X W := ⟨_, _, _, hs, hf, hf, fun u z x => tk u z x⟩
theorem Air.called {X : Cx} {F : Addr} {W : WX} {pins : List (Addr × Obj)} {σ : St} {H : Hp} {s z : Shared} {u : Value} (I : Inv X pins σ H s) (c : L2.CX X.prog X.w X.stack H s (WE W σ) u z) : Air X F W u z := by
  obtain ⟨a, B, H2, cl, d, rfl, fl, hok, ub, na, os, ag, hE⟩ := c
  obtain ⟨G, g1, g2⟩ := restrict z.heap fun b => (B.get? b).isSome || decide (b ∈ frs X.stack)
  have stB : B.StaysIn z.heap := fl.1
  have inG : ∀ b o, B.get? b = some o → G.get? b = some o := fun b o e => by rw [g1 b (by simp [e])]; exact stB b o e
  have frG : ∀ b, b ∈ frs X.stack → G.get? b = z.heap.get? b := fun b hb => g1 b (by simp [hb])
  have ofG : ∀ b o, G.get? b = some o → z.heap.get? b = some o ∧ ((B.get? b).isSome = true ∨ b ∈ frs X.stack) := fun b o e => by
    cases inB : ((B.get? b).isSome || decide (b ∈ frs X.stack)) with
    | false => exact absurd (e.symm.trans (g2 b inB)) (by simp)
    | true => rw [g1 b inB] at e; exact ⟨e, by simpa [Bool.or_eq_true] using inB⟩
  have un : Un (frs X.stack) [] H H2 s.heap G := ⟨fun b o e n hb _ => inG b o (ub.keep b o e n hb), fun b o e n hb _ => (ub.slot b o e hb).imp fun sl q => (frG b hb).trans q, fun b o e n _ => ub.free b o e n, fun b o e _ => by
      by_cases hb : b ∈ frs X.stack
      · exact (ub.slot b o e hb).elim fun sl q => ⟨_, (frG b hb).trans q⟩
      · exact (ub.there b o e hb).imp fun o2 q => inG b o2 q, ub.tups, ub.frzs, ub.tbls⟩
  refine ⟨a, B, { s with heap := G, gens := z.gens, drawn := z.drawn, toks := z.toks }, pins, σ, H2, cl, d, rfl, I.call (ch := []) un (hok.kept inG) ag (fun _ k => nomatch k), fun b o e hb => ?_,
    Heap.UpToSlots.of_keeps fun b o e => (ofG b o e).1, .inr (.inl fl), na, os, ag, hE⟩
  obtain ⟨e2, k | k⟩ := ofG b o e
  · obtain ⟨o2, q⟩ := Option.isSome_iff_exists.mp k
    have y := stB b o2 q
    rw [e2] at y; cases y
    exact q
  · exact absurd k hb
theorem Pas.call {X : Cx} {W : WX} (p : Pas X W) (σ : St) : PassesAt (L2.CX X.prog X.w) X σ (WE W σ) := by
  obtain ⟨F, f, o, h1, h2, h3, h4⟩ := p
  exact fun _ _ _ e z I c => h4 e z (Air.called I c)
theorem pas_no {X : Cx} {F : Addr} {f : Env} {o : List Env} (h1 : X.stack = f :: o) (h2 : f.frame = some F) (h3 : X.env.frame = some F) : Pas X noW :=
  ⟨F, f, o, h1, h2, h3, fun u z ⟨_, _, _, _, _, _, _, _, _, _, _, _, _, _, _, _, w⟩ => False.elim w⟩

/-- a comprehension's end, the block's frame being the outer one's -/
def postF (M : Model) (A : Around) (E : Value → Shared → Prop) (env : Env) (use : Option (Value → Sem Unit)) (Q : Value → Shared → Prop) (acc : Value) (C : Addr) (r : Result) (z : Shared) : Prop :=
  match r with
  | .ok v => compPost M A E use Q acc C (.ok v) z
  | .error x => ∃ m, z.heap.Ns C m ∧ ∀ h2, Heap.SameBut C z.heap h2 → ∀ ce : Env, ce.frame = env.frame → wpAny M A (passOn "comprehension.variables-let-go" x ce : Sem Value) (fun _ _ => False) E { z with heap := h2 }
theorem comp_freeF {M : Model} {A : Around} {E : Value → Shared → Prop} {s : Shared} {env : Env} {e : Expr} {scope : Scope} {pos : Pos} {mk first : Sem Value} {c : Comprehension} {cs : List Comprehension} {cl : List (Str × Addr)} {use : Option (Value → Sem Unit)} {Q : Value → Shared → Prop}
    (hcl : clausesOf e = c :: cs) (hs : ∀ x, foldedSetIterable c.iter env x = pure x) (hclo : closureFor scope env = pure cl) (hk : scope.kind = .function) (hn : ∀ x ∈ scope.names, x.2 = .local → scope.names.lookup x.1 = some .local)
    (h : wpAny M A first (fun x s1 => wpAny M A (pyIter x) (fun it s2 => wpAny M A mk (fun acc s3 => wpAny M A (newFunctionEnv scope env.globals cl [] env.qual none .none (some env)) (fun ce s4 => ce.frame = env.frame ∧
        codeAny M A (.compStart e 0 it acc { ce with scope := relabel scope env }) (postF M A E env use Q acc ce.locals) s4) E s3) E s2) E s1) E s) :
    wpAny M A (comprehension e scope env pos mk false first use) Q E s := by
  unfold comprehension
  rw [hclo, hcl]
  refine wpAny_bind (wpAny_mono h (fun x s1 h1 => wpAny_bind (wpAny_standAt (wpAny_bind (wpAny_of_eq (hs x) (wpAny_bind (wpAny_holding (wpAny_mono h1 (fun it s2 h2 =>
    wpAny_standIf (wpAny_bind (wpAny_mono h2 (fun acc s3 h3 => wpAny_bind (wpAny_pure (wpAny_bind (wpAny_mono h3 (fun ce s4 h4 => ?_) fun _ _ q => q)))) fun _ _ q => q)))
      fun _ _ q => q))))))) fun _ _ q => q)
  obtain ⟨hfr, h4⟩ := h4
  dsimp only
  have loc1 : ∀ x ∈ (scope.names.filter fun x => (x.2 == .local || x.2 == .cell) && x.1 != (".0" : Str)).reverse, x.2 = .local → Env.kindOf { ce with scope := relabel scope env } x.1 = some .local := fun x hx hl =>
    lookup_relabel_local (hn x (List.mem_filter.mp (List.mem_reverse.mp hx)).1 hl)
  have loc2 : ∀ x ∈ (scope.names.filter fun x => (x.2 == .local || x.2 == .cell) && x.1 != (".0" : Str)).reverse.drop 1 ++ (scope.names.filter fun x => (x.2 == .local || x.2 == .cell) && x.1 != (".0" : Str)).reverse.take 1,
      x.2 = .local → Env.kindOf { ce with scope := relabel scope env } x.1 = some .local := fun x hx hl =>
    (List.mem_append.mp hx).elim (fun k => loc1 x (List.mem_of_mem_drop k) hl) fun k => loc1 x (List.mem_of_mem_take k) hl
  refine wpAny_holding (wpAny_bind (wpAny_attempt (wpAny_holding (wpAny_run (codeAny_mono h4 fun r z hr => ?_)))))
  cases r with
  | ok f =>
    cases use with
    | none =>
      obtain ⟨m, k1, k2⟩ := hr
      exact wpAny_bind (wpAny_holding (wpAny_comp_letGo (cenv := { ce with scope := relabel scope env }) hk _ z m loc1 k1 fun h2 m2 _ sb => wpAny_pure (k2 h2 sb)))
    | some u =>
      refine wpAny_bind (wpAny_rule (wpAny_bind (wpAny_holding (wpAny_mono hr (fun _ y hr2 => ?_) fun _ _ q => q))))
      obtain ⟨m, k1, k2⟩ := hr2
      exact wpAny_bind (wpAny_comp_letGo (cenv := { ce with scope := relabel scope env }) hk _ y m loc2 k1 fun h2 m2 _ sb => wpAny_pure (k2 h2 sb))
  | error x =>
    have hr : ∃ m, z.heap.Ns ce.locals m ∧ ∀ h2, Heap.SameBut ce.locals z.heap h2 → ∀ c2 : Env, c2.frame = env.frame → wpAny M A (passOn "comprehension.variables-let-go" x c2 : Sem Value) (fun _ _ => False) E { z with heap := h2 } := hr
    obtain ⟨m, k1, k2⟩ := hr
    cases use <;> exact wpAny_bind (wpAny_holding (wpAny_comp_letGo (cenv := { ce with scope := relabel scope env }) hk _ z m loc1 k1 fun h2 m2 _ sb => wpAny_mono (k2 h2 sb _ hfr) (fun _ _ f => f.elim) fun _ _ y => y))
theorem note_same {e : Value} {c f : Env} (h : c.frame = f.frame) : noteFrame e c = noteFrame e f := by
  unfold noteFrame PySem.frameOf
  rw [h]
abbrev bx (X : Cx) (s : Shared) (H : Hp) (scope : Scope) (ce : Env) (fp : List Addr) (xe : Value → Shared → Prop) : Cx := { X.blk s H scope ce fp with xe := xe }
theorem inv_bx {X : Cx} {s₀ : Shared} {H₀ : Hp} {scope : Scope} {ce : Env} {fp : List Addr} {xe : Value → Shared → Prop} {pins : List (Addr × Obj)} {σ : St} {H : Hp} {s : Shared} (I : Inv (X.blk s₀ H₀ scope ce fp) pins σ H s) : Inv (bx X s₀ H₀ scope ce fp xe) pins σ H s :=
  ⟨⟨I.ok.mod, I.ok.kind, I.ok.glob, I.ok.blt, I.ok.above, I.ok.inj, I.ok.has, I.ok.cab, I.ok.hd, I.ok.frames, I.ok.stk, I.ok.exf, I.ok.bs, I.ok.bsz, I.ok.noex, I.ok.exfs, I.ok.funs, I.ok.frf⟩, I.os, I.bare, I.base, I.loc, I.cell, I.free, I.freeC, I.pin, I.hok, I.len⟩
section
variable {X : Cx} {W : WX} {F : Addr} {f : Env} {o : List Env} {pins : List (Addr × Obj)} {σ : St} {H3 : Hp} {s3 z : Shared} {fp : List Addr} {scope : Scope} {ce : Env} {xe : Value → Shared → Prop} {u acc : Value} {use : Option (Value → Sem Unit)} {Qf : Value → Shared → Prop}
/-- the block lets it out -/
theorem blk_err (hst : X.stack = f :: o) (hf : f.frame = some F) (hF : X.env.frame = some F) (tk : ∀ u z, Air X F W u z → X.xe u z) (I3 : Inv X pins σ H3 s3) (f3 : ∀ b ∈ fp, FpOk X pins H3 b ∧ b < s3.heap.objs.size)
    (cL : ce.locals = s3.heap.objs.size) (cF : ce.frame = some F) (x : Air (bx X s3 H3 scope ce fp xe) F (fun c d _ H => WE W σ c d H) u z) :
    notedBy (model X.prog X.w) X.A ce (fun e y => postF (model X.prog X.w) X.A X.xe X.env use Qf acc s3.heap.objs.size (.error e) y) u z := by
  obtain ⟨a, B, t, pins2, σ2, H2, cl, d, rfl, I6, nb, up, sky, na, os, ag, w⟩ := x
  generalize hC : s3.heap.objs.size = C at cL ⊢
  have I7 : Inv X pins σ H2 t := I3.call' (ch := fp) I6.os I6.base I6.hok I6.bare fun b hb => ⟨(f3 b hb).1.2.2.2.1, (f3 b hb).1.2.1, (f3 b hb).1.2.2.2.2.1, (f3 b hb).1.2.2.2.2.2⟩
  have nC : H2 C = none := by
    have k : H2 ce.locals = none := I6.free
    rw [cL] at k; exact k
  have hfr : X.A.frames = some (f :: o) := by rw [I3.ok.frames, hst]
  have cfr : C ∉ frs X.stack := fun hm => by
    obtain ⟨_, ob, e, _⟩ := I3.stack.mem hm
    have k := Heap.lt_size e
    rw [hC] at k
    exact absurd k (Nat.lt_irrefl _)
  obtain ⟨m, hn, _⟩ := I6.loc
  have hn : t.heap.Ns ce.locals m := hn
  rw [cL] at hn
  obtain ⟨oC, esC, epC, eC, dC, rC⟩ := hn
  have bC : B.get? C = some oC := nb C oC eC cfr
  have sky : Sky B (f :: o) a (Zc cl d) F z.heap := by rw [← hst]; exact sky
  have fin : ∀ h1, HandSPX.HeldZ B (f :: o) a (Zc cl d) F h1 → z.heap.UpToSlots h1 → postF (model X.prog X.w) X.A X.xe X.env use Qf acc C (.error (.ref a)) { z with heap := h1 } := fun h1 hh up1 => by
    obtain ⟨k1, k2, k3, oe, vs, T, oT, ts, he, hz, hd, hv1, hnT, hTe, hT, hdT, hts⟩ := hh
    have eC1 : h1.get? C = some oC := k1 C oC bC
    refine ⟨m, ⟨oC, esC, epC, eC1, dC, rC⟩, fun h2 sb c2 hc2 => ?_⟩
    have aC : a ≠ C := fun k => by rw [k, eC1] at he; cases he; rw [dC] at hd; cases hd
    have tC : T ≠ C := fun k => by rw [k, eC1] at hT; cases hT; rw [dC] at hdT; cases hdT
    have he2 : h2.get? a = some oe := (sb.2 a aC).trans he
    have hT2 : h2.get? T = some oT := (sb.2 T tC).trans hT
    have hid : ∀ {h : Heap} {b : Addr} {q : Obj}, (PySem.W.hideAll h [C]).get? b = some q → h.get? b = some q ∧ b ≠ C := fun {h b q} e => ⟨PySem.W.of_hideAll _ e, fun k => by
      subst k
      rw [PySem.W.hideAll_none [b] List.mem_cons_self] at e; cases e⟩
    have hidN : ∀ {h : Heap} {b : Addr}, h.get? b = none → (PySem.W.hideAll h [C]).get? b = none := fun {h b} e => by
      cases q : (PySem.W.hideAll h [C]).get? b with
      | none => rfl
      | some y => rw [(hid q).1] at e; cases e
    have ff2 : h2.FunFrames (PySem.W.hideAll B [C]) (f :: o) := by
      have j1 : (PySem.W.hideAll h1 [C]).FunFrames B (f :: o) := PySem.W.funFrames_hideAll k3 fun env hm b hb k => by
        rw [List.mem_singleton.mp hb] at k
        exact cfr (by rw [hst]; exact List.mem_filterMap.mpr ⟨env, hm, k⟩)
      have j2 : h2.FunFrames B (f :: o) := j1.of_keeps fun b q e _ => ⟨q, (sb.2 b (hid e).2).trans (hid e).1, rfl⟩
      exact funFrames_none j2 fun b hb => hidN (j2.mem hb).1
    have hh2 : HandSPX.HeldZ (PySem.W.hideAll B [C]) (f :: o) a (Zc cl d) F h2 := ⟨fun b q e => (sb.2 b (hid e).2).trans (k1 b q (hid e).1), hidN k2, ff2, oe, vs, T, oT, ts, he2, hz, hd, hv1, hidN hnT, hTe, hT2, hdT, hts⟩
    obtain ⟨p0, p1, p2, p3, p4, p5⟩ := I3.fpOk (H' := H2) (Nat.le_of_eq hC) nC
    have I8 : Inv X pins σ H2 { t with heap := PySem.W.hideAll t.heap [C] } := I7.turned (t' := t.toks) (fun b q hb e => PySem.W.hideAll_get _ e fun k => hb (List.mem_singleton.mp k)) p0 p1 p3 p4 p5
    unfold PySem.passOn
    have tn : ¬ ((Value.ref T == Value.none) = true) := by simp
    refine wpAny_bind (wpAny_field he2 hd hv1 ?_)
    rw [if_neg tn]
    have go : wpAny (model X.prog X.w) X.A (setFlight (.ref a) c2.frame) (fun _ y => wpAny (model X.prog X.w) X.A (throw (.ref a) : Sem Value) (fun _ _ => False) X.xe y) X.xe { z with heap := h2 } := by
      rw [hc2, hF]
      refine HandSPX.setFlight_onZ hh2 fun h4 hh4 up4 => wpAny_throw (tk _ _ ?_)
      refine ⟨a, PySem.W.hideAll B [C], { t with heap := PySem.W.hideAll t.heap [C] }, pins, σ, H2, cl, d, rfl, I8, fun b q e hb => PySem.W.hideAll_get _ (nb b q (hid e).1 hb) fun k => (hid e).2 (List.mem_singleton.mp k), fun b q e nf => ?_, .inr (.inr (by rw [hst]; exact hh4)), na, os, ag, w⟩
      obtain ⟨sl, e1⟩ := (up.trans up1) b q (hid e).1 nf
      have e2 : h2.get? b = some { q with slots := sl } := (sb.2 b (hid e).2).trans e1
      obtain ⟨sl4, e4⟩ := up4 b { q with slots := sl } e2 nf
      exact ⟨sl4, e4⟩
    first
      | exact wpAny_bind (wpAny_pure (wpAny_bind go))
      | exact wpAny_bind go
  show wpAny _ X.A (noteFrame (.ref a) ce) _ _ _
  rw [note_same (cF.trans hf.symm)]
  rcases sky with ⟨hB, hnn, hl, oe, vs, he, hz, hd, h1⟩ | fl | hh
  · exact HandSPX.look_newZ Zc.steady hfr hl hf he hB hnn hd h1 hz fin
  · exact HandSPX.looks_onZ (Z := Zc cl d) Zc.steady hfr hf fl fin
  · exact HandSPX.againZ hf hh.2.2.2 (fin z.heap hh (Heap.UpToSlots.refl _))
/-- [elt for target in iter if ..], what its block raises let out -/
theorem lc_coreX {s : Shared} {H : Hp} {Q : VK} {elt tg iter : Expr} {ifs : List Expr} {own : List (Str × Nat)} {pos pos' : Pos} {wi : TI} {g : TG} {tt : XK → TT} {te : XK → TE}
    (hc : X.calm = true) (hN : X.N.Nodup) (I : Inv X pins σ H s) (pas : Pas X W) (hi : PI X tg iter wi) (bo : BlkOk X.N X.env.scope scope own)
    (hb : ∀ (s : Shared) (H : Hp) (C : Addr) (cl : List (Str × Addr)) (fp : List Addr) (xe : Value → Shared → Prop) (E : XK), Pas (bx X s H scope (compEnvC scope cl C X.env) fp xe) (fun c d _ H => E c d H) →
      PG (bx X s H scope (compEnvC scope cl C X.env) fp xe) tg g ∧ PTs (bx X s H scope (compEnvC scope cl C X.env) fp xe) ifs (tt E) ∧ PE (bx X s H scope (compEnvC scope cl C X.env) fp xe) elt (te E))
    (hs : ∀ x, foldedSetIterable iter X.env x = pure x) (h : tLc wi g (tt (WE W σ)) (te (WE W σ)) (own.map (·.2)) σ H Q)
    (hRR : ∀ D C z m H2, Inv X pins σ H2 z → Q (.ref D) H2 → z.heap.Ns C m → FpOk X pins H2 C → compPost (model X.prog X.w) X.A X.xe use Qf (.ref D) C (.ok .next) z) : wpAny (model X.prog X.w) X.A (comprehension (.ListComp elt [⟨tg, iter, ifs, 0⟩] scope pos) scope X.env pos' (newList []) false (eval iter X.env) use) Qf X.xe s := by
  obtain ⟨F, f, o, hst, hf, hF, tk⟩ := pas.ex
  have fre : ∀ y ∈ scope.names, y.2 = .free → ∃ c, X.env.cells.lookup y.1 = some c := fun y hy e => (bo.free y hy e).elim (fun k => I.ok.has _ (.inl k)) fun k => I.ok.has _ (.inr k)
  refine comp_freeF (use := use) rfl hs (closure_ok fre) bo.kind (fun y hy e => by rw [bo.uniq y hy, e]) (thn (hi.run pins s σ H _ I h) fun xv t1 hx => thn hx fun itv t2 k2 => ?_)
  obtain ⟨it, fpl, tn, J, G2, e, J2, Tn, y2, fq2, q⟩ := k2
  subst e
  refine wpAny_newObj_type (newEnv_comp ⟨rfl, ?_⟩) (by show 0 ≤ sizeLine; decide)
  generalize eD : t2.heap.objs.size = Dl
  have nD : G2 Dl = none := J2.hok.fresh (Nat.le_of_eq eD)
  obtain ⟨Wt, ⟨m0, w0⟩, turn⟩ := q Dl nD
  generalize es3 : ({ t2 with heap := t2.heap.push { cls := .type "list", data := .seq ([] : List Value).toArray } } : Shared) = t3
  have J3 : Inv X pins σ (upd G2 Dl (.lst [])) t3 := by
    rw [← es3]
    exact J2.laid (t' := t2.toks) (fun b o e => Heap.get?_push_of_some _ e) (Nat.le_of_eq eD) ⟨Nat.zero_le _, [], 0, .nil, by rw [← eD]; exact Heap.get?_push_size _ rfl⟩
  have k3 : t3.heap = t2.heap.push { cls := .type "list", data := .seq ([] : List Value).toArray } := by rw [← es3]
  have fq3 : ∀ b ∈ fpl, FpOk X pins (upd G2 Dl (.lst [])) b ∧ b < t3.heap.objs.size := fun b hb => by
    obtain ⟨ob, e, _⟩ := Tn.obj _ _ y2 b hb
    have hlt : b < t2.heap.objs.size := Heap.lt_size e
    exact ⟨⟨by rw [upd_ne (by rw [← eD]; exact Nat.ne_of_lt hlt)]; exact (fq2 b hb).1, (fq2 b hb).2⟩, by rw [k3, Heap.size_push]; exact Nat.lt_succ_of_lt hlt⟩
  have y3 : tn 0 t3.heap := Tn.keep _ _ _ y2 fun b _ o e => by rw [k3]; exact Heap.get?_push_of_some _ e
  have J4 := block_start J3 bo hN fq3
  have nof : ∀ b ∈ fpl, (upd G2 Dl (.lst [])) b = none := fun b hb => (fq3 b hb).1.1
  show codeAny _ _ (.compStart (.ListComp elt [⟨tg, iter, ifs, 0⟩] scope pos) 0 (.ref it) (.ref Dl) (compEnvC scope (cellsFrom (t3.heap.objs.size + 1) scope.names (cloFrom X.env.cells scope.names [])) t3.heap.objs.size X.env)) (postF (model X.prog X.w) X.A X.xe X.env use Qf (.ref Dl) t3.heap.objs.size) { t3 with heap := pushCells (t3.heap.push { cls := .type "dict", data := .dict #[] }) scope.names }
  have blk := fun (xe : Value → Shared → Prop) (E : XK) => hb t3 (upd G2 Dl (.lst [])) t3.heap.objs.size (cellsFrom (t3.heap.objs.size + 1) scope.names (cloFrom X.env.cells scope.names [])) fpl xe E
  generalize ece : compEnvC scope (cellsFrom (t3.heap.objs.size + 1) scope.names (cloFrom X.env.cells scope.names [])) t3.heap.objs.size X.env = ce at J4 blk ⊢
  have eL : ce.locals = t3.heap.objs.size := by subst ece; rfl
  have eF : ce.frame = some F := by subst ece; exact hF
  generalize eH3 : upd G2 Dl (.lst []) = G3 at J3 J4 blk w0 nof fq3
  have prt : ∀ xe : Value → Shared → Prop, xe = notedBy (model X.prog X.w) X.A ce (fun e y => postF (model X.prog X.w) X.A X.xe X.env use Qf (.ref Dl) t3.heap.objs.size (.error e) y) → Pas (bx X t3 G3 scope ce fpl xe) (fun c d _ H => WE W σ c d H) := fun xe hxe =>
    ⟨F, f, o, hst, hf, eF, fun u z x => by
      show xe u z
      rw [hxe]
      exact blk_err hst hf hF tk J3 fq3 eL eF x⟩
  generalize hxe : (notedBy (model X.prog X.w) X.A ce fun e y => postF (model X.prog X.w) X.A X.xe X.env use Qf (.ref Dl) t3.heap.objs.size (.error e) y) = xe at prt
  obtain ⟨pg, pt, pe⟩ := blk xe _ (prt xe rfl)
  have J4 := inv_bx (xe := xe) J4
  generalize es4 : ({ t3 with heap := pushCells (t3.heap.push { cls := .type "dict", data := .dict #[] }) scope.names } : Shared) = t4 at J4 ⊢
  have y4 : tn 0 t4.heap := Tn.keep _ _ _ y3 fun b _ o e => by rw [← es4]; exact pushCells_keeps _ _ _ _ (Heap.get?_push_of_some _ e)
  have fpk : ∀ {σ' : St} {G' : Hp} {t' : Shared}, Inv (bx X t3 G3 scope ce fpl xe) [] σ' G' t' → (∀ b ∈ fpl, G' b = none) → ∀ b ∈ fpl, FpOk (bx X t3 G3 scope ce fpl xe) [] G' b := fun {σ' G' t'} J' nn b hb =>
    ⟨nn b hb, (J'.ok.exf b hb).1, J'.ok.exfs b hb, .inl hb, fun x c e => (J'.ok.exf b hb).2 x c e, fun p hp => absurd (show p ∈ ([] : List (Addr × Obj)) ++ [] from hp) (by simp)⟩
  have lp : codeAny (model X.prog X.w) X.A (.compLoop (.ListComp elt [⟨tg, iter, ifs, 0⟩] scope pos) 0 (.ref it) (.ref Dl) ce) (postF (model X.prog X.w) X.A X.xe X.env use Qf (.ref Dl) t3.heap.objs.size) t4 := by
    refine compLoop_any (fun n z => ∃ i G', Inv (bx X t3 G3 scope ce fpl xe) [] (wipe σ (own.map (·.2))) G' z ∧ tn i z.heap ∧ (∀ b ∈ fpl, G' b = none) ∧ Wt i n G') ?_ m0 ⟨0, G3, J4, y4, nof, w0⟩
    rw [hxe]
    rintro n t5 ⟨i, G5, J5, y5, e5, wt5⟩
    rcases turn i n G5 wt5 with ⟨stp, qe⟩ | ⟨go_, Nx, nxt, stp_⟩
    · refine thnF (Tn.done (bx X t3 G3 scope ce fpl xe) rfl rfl rfl hc i [] t5 _ G5 (fun _ _ => False) J5 (fpk J5 e5) y5 stp) fun r t6 ⟨er, J6⟩ => ?_
      subst er
      have J7 : Inv X pins σ G5 t6 := J3.call' (ch := fpl) J6.os J6.base J6.hok J6.bare fun b hb => ⟨(fq3 b hb).1.2.2.2.1, (fq3 b hb).1.2.1, (fq3 b hb).1.2.2.2.2.1, (fq3 b hb).1.2.2.2.2.2⟩
      have cG : G5 t3.heap.objs.size = none := by
        have k : G5 ce.locals = none := J6.free
        rw [eL] at k; exact k
      obtain ⟨m, nn, _⟩ := J6.loc
      have nn : t6.heap.Ns ce.locals m := nn
      rw [eL] at nn
      exact hRR Dl t3.heap.objs.size t6 m G5 J7 qe nn (J3.fpOk (Nat.le_refl _) cG)
    · refine thnF (Tn.item (bx X t3 G3 scope ce fpl xe) rfl rfl rfl hc i [] t5 _ G5 (fun _ _ => False) J5 (fpk J5 e5) y5 go_) fun r t6 ⟨u, er, k6⟩ => ?_
      subst er
      refine thnF k6 fun _ t7 ⟨x, G7, J7, v7, yi7, y7, e7⟩ => ?_
      have I7' := J7.pinned (fpk J7 e7) (Tn.obj _ _ y7)
      refine thn (pg.run _ t7 _ G7 x u _ I7' v7 (stp_ x G7 yi7)) fun _ t8 ⟨σ8, G8, J8, wq8, qd8⟩ => ?_
      refine thn (pt.run _ t8 σ8 G8 _ J8 qd8) fun b t9 ⟨G9, J9, qd9⟩ => ?_
      have fn : ∀ {z : Shared} {G' : Hp}, Inv (bx X t3 G3 scope ce fpl xe) ([] ++ pinsAt fpl t7.heap) σ8 G' z → Nx G' → ∃ m, m < n ∧ ∃ i G', Inv (bx X t3 G3 scope ce fpl xe) [] (wipe σ (own.map (·.2))) G' z ∧ tn i z.heap ∧ (∀ b ∈ fpl, G' b = none) ∧ Wt i m G' := fun {z G'} J' nx_ => by
        obtain ⟨mj, lm, wj⟩ := nxt G' nx_
        have pj : ∀ b ∈ fpl, ∀ o, t7.heap.get? b = some o → z.heap.get? b = some o ∧ G' b = none := fun b hb o e =>
          let k := J'.pin (b, o) (List.mem_append_right _ (List.mem_append_right _ (mem_pinsAt hb e)))
          ⟨k.1, k.2.1⟩
        have ll : (wipe σ (own.map (·.2))).length = σ8.length := by rw [← wq8, wipe_length]
        refine ⟨mj, lm, i + 1, G', (J'.unpinned (pins := [])).weak ll (fun j v e => by rw [← wq8] at e; exact (wipe_some e).1), Tn.keep _ _ _ y7 fun b hb o e => (pj b hb o e).1, fun b hb => ?_, wj⟩
        obtain ⟨ob, e, _⟩ := Tn.obj _ _ y7 b hb
        exact (pj b hb ob e).2
      cases b with
      | false =>
        simp only [Bool.false_eq_true, if_false] at qd9 ⊢
        exact fn J9 qd9
      | true =>
        simp only [if_true] at qd9 ⊢
        refine thn (pe.run _ t9 σ8 G9 _ J9 qd9) fun v t10 ⟨yv, G10, J10, v10, ac, eD10, ez10, nx_⟩ => ?_
        exact app_ok (X := bx X t3 G3 scope ce fpl xe) J10 eD10 ez10 v10 fun t11 J11 => fn J11 nx_
  exact codeAny_compStart_list lp (Tn.self X.A 0 _ _ _ y4 lp)
end
end Ev

namespace Ev
open PySem PySem.Spec L2
open PyProof.Rows hiding St

/-- a block's wish: the def's, its slots as they stood -/
abbrev wE (E : XK) : WX := fun c d _ H => E c d H
theorem at_of {X : Cx} {W : WX} (tk : Takes X W) : ∀ σ, PassesAt (L2.CX X.prog X.w) X σ (WE W σ) := fun σ => passAt tk σ
def compX (j : Ja) (t : Tg) (ft : FT) (fe : FE) (s : Sa) : Nat → Nat → List A → Ah → Rs (List A)
  | 0, _, _, _ => .no
  | m + 1, i, acc, h => match j.nxt i h with
    | none => .no
    | some none => .ok acc.reverse h
    | some (some x) => match t.run x s with
      | none => .no
      | some s1 => (ft s1 h).bind fun b h1 => match b with
        | false => compX j t ft fe s m (i + 1) acc h1
        | true => (fe s1 h1).bind fun y h2 => match Nat.blt acc.length 16777216 with
          | true => compX j t ft fe s m (i + 1) (y :: acc) h2
          | false => .no
def fLcX (fi : FI) (t : Tg) (ft : FT) (fe : FE) (vs : List Nat) (fuel : Nat) : FA := fun s h => (fi s h).bind fun j h1 => compX j t ft fe (wipeA s vs) fuel 0 [] h1
theorem Post.out {α β : Type} {g : Gl} {W : WX} {ρ ρc : Nat → Addr} {n nc : Nat} {H Hc : Hp} {σ σ' : St} {Qb : β → (Nat → Addr) → Ah → Hp → Prop} {Qa : α → (Nat → Addr) → Ah → Hp → Prop} {r : Rs α} {k : α → Ah → Rs β}
    (ec : Ext ρ n H ρc nc Hc) (p : Post g W ρ n H σ Qb (r.bind k)) (q : ∀ v ρ1 h1 H1, r = .ok v h1 → Ext ρc nc Hc ρ1 h1.n H1 → RH g ρ1 H1 h1 → Post g W ρ n H σ Qb (k v h1) → Qa v ρ1 h1 H1) : Post g (wE (WE W σ)) ρc nc Hc σ' Qa r := by
  cases r with
  | ok v h1 => exact fun ρ1 H1 e rh => q v ρ1 h1 H1 rfl e rh p
  | ex c h1 => exact fun ρ1 H1 e rh => p ρ1 H1 (ec.trans e) rh
  | no => exact p
section
variable {X : Cx} {g : Gl} {W : WX} {pos : Pos}
theorem lcX_rd {fi : FI} {t : Tg} {ft : FT} {fe : FE} {vs : List Nat} {fuel : Nat} (hv : t.slots.all (vs.contains ·) = true) {σ : St} {H : Hp} {Q : VK} (q : rdL g W (fLcX fi t ft fe vs fuel) σ H Q) :
    tLc (rdI g W fi) (rdG g t) (rdT g (wE (WE W σ)) ft) (rdE g (wE (WE W σ)) fe) vs σ H Q := by
  have hv : ∀ i ∈ t.slots, i ∈ vs := fun i hi => List.contains_iff_mem.mp (List.all_eq_true.mp hv i hi)
  obtain ⟨ρ, s, h, rs, rh, p⟩ := q
  refine ⟨ρ, s, h, rs, rh, Post.seq .refl p fun j ρ1 h1 H1 _ e1 r1 p1 J rj => ?_⟩
  intro D hD
  have rs1 : RS g ρ1 h1.n H1 (wipeA s vs) (wipe σ vs) := (rs.mono e1).wipe vs
  have hD0 : H D = none := e1.gn D hD
  let Wt : Nat → Nat → Hp → Prop := fun i m Hc => ∃ ρ' h' acc ys, Ext ρ1 h1.n H1 ρ' h'.n Hc ∧ RH g ρ' Hc h' ∧ Hc D = some (.lst ys) ∧ (∀ k, k < h'.n → ρ' k ≠ D) ∧ RVs g ρ' h'.n Hc acc.reverse ys ∧ Post g W ρ h.n H σ (LQ g H Q) (compX j t ft fe (wipeA s vs) m i acc h')
  refine ⟨Wt, ⟨fuel, ρ1, h1, [], [], ext_new hD, r1.new hD, upd_same, fun k hk z => ?_, .nil, p1⟩, fun i m Hc w => ?_⟩
  · obtain ⟨o, ho, _⟩ := r1.there hk
    rw [z, hD] at ho; cases ho
  · obtain ⟨ρ', h', acc, ys, ec, rc, hDc, nD, rys, pc⟩ := w
    cases m with
    | zero => exact pc.elim
    | succ m =>
      unfold compX at pc
      split at pc
      · exact pc.elim
      · rename_i en
        exact .inl ⟨rj ec.to rc en, pc ρ' Hc (e1.trans ec) rc D ys hD0 hDc nD rys⟩
      · rename_i x en
        split at pc
        · exact pc.elim
        · rename_i s1 es
          obtain ⟨go, yl⟩ := rj ec.to rc en
          refine .inr ⟨go, fun Hn => ∃ m', m' < m + 1 ∧ Wt (i + 1) m' Hn, fun H' w => w, fun v H' hy => ?_⟩
          obtain ⟨e2, r2, rx⟩ := yl v H' hy
          have ec2 := ec.trans e2
          refine ⟨ρ', h'.n, wipeA s vs, x, s1, rs1.mono ec2, rx, es, fun σ2 rs2 hw => ⟨(hw vs hv).trans (wipe_wipe σ vs vs fun _ h => h), ρ', s1, h', rs2, r2, Post.out (e1.trans ec2) pc fun b ρ3 h3 H3 _ e3 r3 p3 => ?_⟩⟩
          have ec3 := ec2.trans e3
          have hD2 : H' D = some (.lst ys) := e2.fr D _ hDc nD
          have hD3 : H3 D = some (.lst ys) := e3.fr D _ hD2 nD
          have nD3 := e3.out hD2 nD
          have rys3 := (rys.mono e2).mono e3
          cases b with
          | false => exact iteF ⟨m, Nat.lt_succ_self _, ρ3, h3, acc, ys, ec3, r3, hD3, nD3, rys3, p3⟩
          | true =>
            refine iteT ⟨ρ3, s1, h3, rs2.mono e3, r3, Post.out (e1.trans ec3) p3 fun y ρ4 h4 H4 _ e4 r4 p4 yv ry => ?_⟩
            have ec4 := ec3.trans e4
            have hD4 : H4 D = some (.lst ys) := e4.fr D _ hD3 nD3
            have nD4 := e4.out hD3 nD3
            have rys4 := rys3.mono e4
            split at p4
            · rename_i hl
              refine ⟨ys, hD4, ?_, m, Nat.lt_succ_self _, ρ4, h4, y :: acc, ys ++ [yv], ext_over ec4 hD, r4.own hD4 nD4, upd_same, nD4, ?_, p4⟩
              · rw [← rys.length, List.length_reverse]; exact lenLt hl
              · rw [List.reverse_cons]
                exact (rys4.append (.cons ry .nil)).monoT (tp_own hD4)
            · exact p4.elim
theorem el_lcX {elt tg iter : Expr} {ifs : List Expr} {scope : Scope} {own : List (Str × Nat)} {fi : FI} {t : Tg} {ft : FT} {fe : FE} (fuel : Nat) (hc : X.calm = true) (hN : X.N.Nodup) (pas : Pas X W) (hi : PI X tg iter (rdI g W fi)) (ok : BlkOk X.N X.env.scope scope own) (hv : t.slots.all ((own.map (·.2)).contains ·) = true)
    (hb : ∀ (s : Shared) (H : Hp) (C : Addr) (cl : List (Str × Addr)) (fp : List Addr) (xe : Value → Shared → Prop) (E : XK), Pas (bx X s H scope (compEnvC scope cl C X.env) fp xe) (wE E) →
      PG (bx X s H scope (compEnvC scope cl C X.env) fp xe) tg (rdG g t) ∧ PTs (bx X s H scope (compEnvC scope cl C X.env) fp xe) ifs (rdT g (wE E) ft) ∧ PE (bx X s H scope (compEnvC scope cl C X.env) fp xe) elt (rdE g (wE E) fe))
    (hs : ∀ x, foldedSetIterable iter X.env x = pure x := by intro _; rfl) : PE X (.ListComp elt [⟨tg, iter, ifs, 0⟩] scope pos) (rdL g W (fLcX fi t ft fe (own.map (·.2)) fuel)) := by
  refine ⟨fun pl s σ H Q I q => ?_⟩
  rw [eval_ListComp]
  refine lc_coreX (W := W) (tt := fun E => rdT g (wE E) ft) (te := fun E => rdE g (wE E) fe) hc hN I pas hi ok hb hs (lcX_rd hv q) fun D C z m H2 I2 q2 hn f => ⟨m, hn, fun h2 sb => ?_⟩
  obtain ⟨c0, c1, c2, c3, c4, c5⟩ := f
  exact ⟨.ref D, H2, I2.turned (t' := z.toks) (fun b o hb e => (sb.2 b hb).trans e) c0 c1 c3 c4 c5, rfl, q2⟩
theorem es_setLcX {i : Nat} {y : Str} {py spos : Pos} {elt tg iter : Expr} {ifs : List Expr} {scope : Scope} {own : List (Str × Nat)} {fi : FI} {t : Tg} {ft : FT} {fe : FE} (fuel : Nat) (hc : X.calm = true) (hN : X.N.Nodup) (pas : Pas X W) (hy : X.N[i]? = some y) (hyl : X.env.scope.names.lookup y = some .local)
    (hsw : swapsWith (.ListComp elt [⟨tg, iter, ifs, 0⟩] scope pos) (some (.Name y py)) spos.line X.env = pure true) (hi : PI X tg iter (rdI g W fi)) (ok : BlkOk X.N X.env.scope scope own) (hv : t.slots.all ((own.map (·.2)).contains ·) = true)
    (hb : ∀ (s : Shared) (H : Hp) (C : Addr) (cl : List (Str × Addr)) (fp : List Addr) (xe : Value → Shared → Prop) (E : XK), Pas (bx X s H scope (compEnvC scope cl C X.env) fp xe) (wE E) →
      PG (bx X s H scope (compEnvC scope cl C X.env) fp xe) tg (rdG g t) ∧ PTs (bx X s H scope (compEnvC scope cl C X.env) fp xe) ifs (rdT g (wE E) ft) ∧ PE (bx X s H scope (compEnvC scope cl C X.env) fp xe) elt (rdE g (wE E) fe))
    (hs : ∀ x, foldedSetIterable iter X.env x = pure x := by intro _; rfl) : PS X (.Assign [.Name y py] (.ListComp elt [⟨tg, iter, ifs, 0⟩] scope pos) spos) (rdS g W (fSet i (eOfL (fLcX fi t ft fe (own.map (·.2)) fuel)))) := by
  refine ⟨fun pins s σ H D I ⟨ρ, sa, ha, rs, r, p⟩ => ?_⟩
  have q : rdE g W (eOfL (fLcX fi t ft fe (own.map (·.2)) fuel)) σ H fun x H1 => gName i x σ H1 D.nx := rdS.e rs r .refl p fun v x ρ1 h1 H1 e1 r1 rx p1 => p1 ρ1 H1 _ e1 r1 ((rs.mono e1).set rx i)
  have eu := exec_Assign_Name_used _ _ _ _ hsw
  rw [eu]
  refine wpAny_bind (wpAny_standAt (wpAny_bind (Q := fun _ => _) ?_))
  refine wpAny_bind (thn (lc_coreX (W := W) (Qf := fun _ z => SP X pins D .next z) (tt := fun E => rdT g (wE E) ft) (te := fun E => rdE g (wE E) fe) hc hN I pas hi ok hb hs (lcX_rd hv (rdE_of_L q)) fun L C z m H2 I2 q2 hn f => ?_) fun _ z hq => wpAny_pure (wpAny_pure hq))
  show wpAny (model X.prog X.w) X.A (assign (.Name y py) X.env (.ref L)) _ _ _
  refine wpAny_assign_Name (store_ok2 (v := V.ref L) I2 hN hy (.inl hyl) rfl (fun s2 I3 ⟨a, sb, hx⟩ => ?_) (.inr hyl))
  obtain ⟨c0, c1, c2, c3, c4, c5⟩ := f
  have haC : C ≠ a := by
    rcases hx with k | k
    · rw [k]; exact c1
    · exact fun e => c4 y a k e.symm
  have nn := hn.sameBut sb haC
  refine ⟨m, nn, fun h3 sb3 => ?_⟩
  exact ⟨_, H2, I3.turned (t' := s2.toks) (fun b o hb e => (sb3.2 b hb).trans e) c0 c1 c3 c4 c5, q2⟩
/-- two clauses, stored in a plain local name -/
theorem es_setLc2 {i : Nat} {y : Str} {py spos : Pos} {elt tg iter tg1 iter1 : Expr} {ifs ifs1 : List Expr} {scope : Scope} {own : List (Str × Nat)} {vs1 : List Nat} {fi fi1 : FI} {t t1 : Tg} {ft ft1 : FT} {fe : FE} (fuel : Nat) (hc : X.calm = true) (hN : X.N.Nodup) (hy : X.N[i]? = some y) (hyl : X.env.scope.names.lookup y = some .local)
    (hsw : swapsWith (.ListComp elt [⟨tg, iter, ifs, 0⟩, ⟨tg1, iter1, ifs1, 0⟩] scope pos) (some (.Name y py)) spos.line X.env = pure true) (hi : PI X tg iter (rdI g W fi)) (ok : BlkOk X.N X.env.scope scope own)
    (hv : t.slots.all ((own.map (·.2)).contains ·) = true) (hv1 : t1.slots.all (vs1.contains ·) = true) (hvv : vs1.all ((own.map (·.2)).contains ·) = true)
    (hb : ∀ (s : Shared) (H : Hp) (C : Addr) (cl : List (Str × Addr)) (fp : List Addr), PG (X.blk s H scope (compEnvC scope cl C X.env) fp) tg (rdG g t) ∧ PTs (X.blk s H scope (compEnvC scope cl C X.env) fp) ifs (rdT g noW ft) ∧ PI (X.blk s H scope (compEnvC scope cl C X.env) fp) tg1 iter1 (rdI g noW fi1) ∧
      PG (X.blk s H scope (compEnvC scope cl C X.env) fp) tg1 (rdG g t1) ∧ PTs (X.blk s H scope (compEnvC scope cl C X.env) fp) ifs1 (rdT g noW ft1) ∧ PE (X.blk s H scope (compEnvC scope cl C X.env) fp) elt (rdE g noW fe))
    (hs : ∀ x, foldedSetIterable iter X.env x = pure x := by intro _; rfl) (hs1 : ∀ env x, foldedSetIterable iter1 env x = pure x := by intro _ _; rfl) :
    PS X (.Assign [.Name y py] (.ListComp elt [⟨tg, iter, ifs, 0⟩, ⟨tg1, iter1, ifs1, 0⟩] scope pos) spos) (rdS g W (fSet i (eOfL (fLc2 fi t ft fi1 t1 ft1 fe (own.map (·.2)) vs1 fuel)))) :=
  (ps_setLc2 hc hN hy hyl hsw hi ok (fun i hi => List.contains_iff_mem.mp (List.all_eq_true.mp hvv i hi)) (fun s H C cl fp => (hb s H C cl fp).1) (fun s H C cl fp => (hb s H C cl fp).2.1) (fun s H C cl fp => (hb s H C cl fp).2.2.1) (fun s H C cl fp => (hb s H C cl fp).2.2.2.1) (fun s H C cl fp => (hb s H C cl fp).2.2.2.2.1)
    (fun s H C cl fp => (hb s H C cl fp).2.2.2.2.2) hs hs1).imp fun D σ H ⟨ρ, s, h, rs, r, p⟩ => lc2_rd hv hv1 (rdE_of_L (rdS.e rs r .refl p fun v x ρ1 h1 H1 e1 r1 rx p1 => p1 ρ1 H1 _ e1 r1 ((rs.mono e1).set rx i)))
end
end Ev

namespace Ev
open PySem PySem.Spec L2
open PyProof.Rows hiding St

/-! ### defs as values -/
def fFn (i : Nat) : FE := fun _ h => .ok (.fn i) h
/-- of each def in the table: what it is and its promise -/
structure Tab (P : Program) (w : World) (K : PySem.W.Frag) (mg : Str → Option Value) (base : Heap) (k : Nat) (g : Gl) (tb : List (Nat × Nat × GL)) : Prop where
  to : ∀ i np C, (i, np, C) ∈ tb → ∃ (x : Str) (st : Stmt) (ps : List Str), Dn K mg g i x st ps ∧ FnOk P w K mg base (L2.CX P w) k (g.fa i) (g.fd i) ps (spA g np C)
theorem tab_nil {P : Program} {w : World} {K : PySem.W.Frag} {mg : Str → Option Value} {base : Heap} {k : Nat} {g : Gl} : Tab P w K mg base k g [] := ⟨fun _ _ _ h => nomatch h⟩
theorem tab_cons {P : Program} {w : World} {K : PySem.W.Frag} {mg : Str → Option Value} {base : Heap} {k i np : Nat} {g : Gl} {C : GL} {x : Str} {st : Stmt} {ps : List Str} {tb : List (Nat × Nat × GL)} (D : Dn K mg g i x st ps)
    (F : FnOk P w K mg base (L2.CX P w) k (g.fa i) (g.fd i) ps (spA g np C)) (r : Tab P w K mg base k g tb) : Tab P w K mg base k g ((i, np, C) :: tb) :=
  ⟨fun j m G h => by
    rcases List.mem_cons.mp h with ez | h
    · cases ez; exact ⟨x, st, ps, D, F⟩
    · exact r.to j m G h⟩
def findF : List (Nat × Nat × GL) → Nat → Option (Nat × GL)
  | [], _ => none
  | (j, np, C) :: r, i => match Nat.beq j i with
    | true => some (np, C)
    | false => findF r i
theorem findF_mem : ∀ {tb : List (Nat × Nat × GL)} {i np : Nat} {C : GL}, findF tb i = some (np, C) → (i, np, C) ∈ tb
  | (j, m, G) :: r, i, np, C, h => by
    unfold findF at h
    split at h
    · rename_i e
      cases h
      rw [Nat.eq_of_beq_eq_true e]
      exact List.mem_cons_self
    · exact List.mem_cons_of_mem _ (findF_mem h)
def fCallV (tb : List (Nat × Nat × GL)) (fo : FE) (fs : FA) : FE := fun s h => (fo s h).bind fun v h1 => match v with
  | .fn i => (match findF tb i with
    | some (np, C) => (fs s h1).bind fun vs h2 => (match Nat.beq vs.length np with
      | true => C vs h2
      | false => .no)
    | none => .no)
  | _ => .no
theorem RV.fn' {g : Gl} {ρ : Nat → Addr} {n : Nat} {H : Hp} {i : Nat} {x : V} (r : RV g ρ n H (.fn i) x) : x = .ref (g.fa i) := by
  unfold RV at r; exact r
section
variable {X : Cx} {g : Gl} {W : WX} {pos p : Pos} {k i : Nat} {x : Str} {st : Stmt} {ps : List Str} {e fe : Expr} {es : List Expr} {fo : FE} {fs : FA} {tb : List (Nat × Nat × GL)}
theorem ee_fn (D : Dn X.K X.mg g i x st ps) (hg : L2.Gl X x) (hdb : (x == ("__debug__" : Str)) = false := by decide) : PE X (.Name x p) (rdE g W (fFn i)) :=
  (pe_glob (v := .ref (g.fa i)) hg D.m rfl hdb).imp fun σ H Q ⟨ρ, s, h, rs, r, q⟩ => q.now .refl r _ (by unfold RV; rfl)
theorem ee_callV (T : Tab X.prog X.w X.K X.mg X.base k g tb) (hr : Room k X.A) (tk : ∀ σ, PassesAt (L2.CX X.prog X.w) X σ (WE W σ)) (hf : PE X fe (rdE g W fo)) (ha : PA X (e :: es) (rdA g W fs))
    (arm : eval (.Call fe (e :: es) [] pos) X.env = (do callWith pos (← eval fe X.env) [] (backTo pos (starEach (e :: es) X.env)) (backToKw pos (keywordEach [] X.env))) := by rfl)
    (he : starEach (e :: es) X.env = (false, eval e X.env) :: starEach es X.env := by rfl) (hpl : (backTo pos (starEach es X.env)).any (·.1) = false := by rfl) : PE X (.Call fe (e :: es) [] pos) (rdE g W (fCallV tb fo fs)) := by
  refine ⟨fun pl s σ H Q I ⟨ρ, sa, h, rs, rh, q⟩ => ?_⟩
  rw [arm]
  have q1 : rdE g W fo σ H fun v H1 => ∃ i np C, v = .ref (g.fa i) ∧ (i, np, C) ∈ tb ∧ rdA g W fs σ H1 fun vs H2 => spA g np C vs H2 Q (WE W σ) := rdE.seq (σ' := σ) rs rh .refl q fun v y ρ1 h1 H1 e1 r1 ry p1 => by
    split at p1
    · rename_i i
      split at p1
      · rename_i np C hfi
        refine ⟨i, np, C, ry.fn', findF_mem hfi, rdA.seq (rs.mono e1) r1 e1 p1 fun vs xs ρ2 h2 H2 e2 r2 rx p2 => ?_⟩
        split at p2
        · rename_i hl
          exact ⟨ρ2, h2, vs, r2, rx, by rw [← rx.length]; exact Nat.eq_of_beq_eq_true hl, (p2.base (e1.trans e2)).toE⟩
        · exact p2.elim
      · exact p1.elim
    · exact p1.elim
  refine wpAny_bind (thn (hf.run pl s σ H _ I q1) fun u s1 ⟨v, H1, I1, r1, i, np, C, hv, hm, q2⟩ => ?_)
  subst hv
  cases r1
  obtain ⟨y, st, ps, D, F⟩ := T.to i np C hm
  refine PySem.W.callWith_K (h₀ := X.base) I.ok.mod.kin D.F.kp (thn (ha.run pos pl s1 σ H1 _ I1 q2) fun us s2 ⟨vs, H2, I2, r, q3⟩ => ⟨I2.kIn, ?_⟩) he hpl
  exact run_fnS (E := WE W) F hr D.b (tk σ) I2 r q3
end
/-! ### max, min of a list of ints -/
def maxI : Int → List Int → Int
  | m, [] => m
  | m, b :: r => maxI (if m < b then b else m) r
def minI : Int → List Int → Int
  | m, [] => m
  | m, b :: r => minI (if b < m then b else m) r
theorem maxI_ok : ∀ (l : List Int) (m : Int), maxI m l ∈ m :: l ∧ m ≤ maxI m l ∧ ∀ y ∈ l, y ≤ maxI m l
  | [], m => ⟨List.mem_cons_self, Int.le_refl _, fun _ h => nomatch h⟩
  | b :: r, m => by
    unfold maxI
    obtain ⟨h1, h2, h3⟩ := maxI_ok r (if m < b then b else m)
    by_cases hb : m < b
    · rw [if_pos hb] at h1 h2 h3 ⊢
      refine ⟨List.mem_cons_of_mem _ h1, by omega, fun y hy => ?_⟩
      rcases List.mem_cons.mp hy with rfl | hin
      · exact h2
      · exact h3 y hin
    · rw [if_neg hb] at h1 h2 h3 ⊢
      refine ⟨?_, h2, fun y hy => ?_⟩
      · rcases List.mem_cons.mp h1 with e | e
        · rw [e]; exact List.mem_cons_self
        · exact List.mem_cons_of_mem _ (List.mem_cons_of_mem _ e)
      · rcases List.mem_cons.mp hy with rfl | hin
        · omega
        · exact h3 y hin
theorem minI_ok : ∀ (l : List Int) (m : Int), minI m l ∈ m :: l ∧ minI m l ≤ m ∧ ∀ y ∈ l, minI m l ≤ y
  | [], m => ⟨List.mem_cons_self, Int.le_refl _, fun _ h => nomatch h⟩
  | b :: r, m => by
    unfold minI
    obtain ⟨h1, h2, h3⟩ := minI_ok r (if b < m then b else m)
    by_cases hb : b < m
    · rw [if_pos hb] at h1 h2 h3 ⊢
      refine ⟨List.mem_cons_of_mem _ h1, by omega, fun y hy => ?_⟩
      rcases List.mem_cons.mp hy with rfl | hin
      · exact h2
      · exact h3 y hin
    · rw [if_neg hb] at h1 h2 h3 ⊢
      refine ⟨?_, h2, fun y hy => ?_⟩
      · rcases List.mem_cons.mp h1 with e | e
        · rw [e]; exact List.mem_cons_self
        · exact List.mem_cons_of_mem _ (List.mem_cons_of_mem _ e)
      · rcases List.mem_cons.mp hy with rfl | hin
        · omega
        · exact h3 y hin
def lMax (xs : List A) (h : Ah) : Rs A := match intsOf xs with
  | some (b :: bs) => .ok (.int (maxI b bs)) h
  | _ => .no
def lMin (xs : List A) (h : Ah) : Rs A := match intsOf xs with
  | some (b :: bs) => .ok (.int (minI b bs)) h
  | _ => .no
theorem lo_max {g : Gl} {K : PySem.W.Frag} : ListOk g K (rMax K) lMax := by
  intro W ρ ρc n H Hc h σ Q vs ys q e r hq rv p
  unfold lMax at p
  split at p
  · rename_i b bs hb
    obtain ⟨h1, h2, h3⟩ := maxI_ok bs b
    refine ⟨q, b :: bs, rfl, by rw [← intsOf_ok hb rv]; exact hq, Nat.succ_pos _, fun m hm hu => ?_⟩
    have e1 : m ≤ maxI b bs := (List.mem_cons.mp hm).elim (fun k => k ▸ h2) fun k => h3 m k
    have e2 : m = maxI b bs := Int.le_antisymm e1 (hu _ h1)
    rw [e2]
    exact p.now e r _ rv_int
  · exact p.elim
theorem lo_min {g : Gl} {K : PySem.W.Frag} : ListOk g K (rMin K) lMin := by
  intro W ρ ρc n H Hc h σ Q vs ys q e r hq rv p
  unfold lMin at p
  split at p
  · rename_i b bs hb
    obtain ⟨h1, h2, h3⟩ := minI_ok bs b
    refine ⟨q, b :: bs, rfl, by rw [← intsOf_ok hb rv]; exact hq, Nat.succ_pos _, fun m hm hu => ?_⟩
    have e1 : minI b bs ≤ m := (List.mem_cons.mp hm).elim (fun k => k ▸ h2) fun k => h3 m k
    have e2 : m = minI b bs := Int.le_antisymm (hu _ h1) e1
    rw [e2]
    exact p.now e r _ rv_int
  · exact p.elim
end Ev

/-! dicts: keys that are ints and texts, or tuples of these at any depth -/
namespace Ev
open PySem PySem.Spec L2
open PyProof.Rows hiding St

/-! ### the raw dict -/
abbrev Rw := List (NestedKey × Value × Value)
section
variable {X : Cx} {pl : List (Addr × Obj)} {σ : St} {H : Hp} {s : Shared} {P : Program} {w : World} {d : Addr} {vs : Rw} {h h' : Heap}
theorem draw_at (x : DRaw w d vs h) (k : ∀ o, h.get? d = some o → h'.get? d = some o) : DRaw w d vs h' := by
  obtain ⟨o, es, ep, ho, r⟩ := x
  exact ⟨o, es, ep, k o ho, r⟩
theorem draw_new (x : DRaw w d vs h) : ObjOk P w H h d (dO w d vs) := by
  have ⟨o, es, ep, ho, r⟩ := x
  exact ⟨x, ⟨o, ho⟩, fun h1 h2 p k => draw_at p k⟩
theorem draw_get {fz : Bool} (I : Inv X pl σ H s) (r : RF H d (dO w d vs) fz) : DRaw w d vs s.heap := by
  cases fz with
  | false => exact (I.hok d _ r).1
  | true =>
    obtain ⟨o, e⟩ := r
    exact (I.hok d _ e).2.1
theorem draw_raw (x : DRaw w d vs h) : ∃ es ep, h.DictRaw d es ep ∧ es.toList = vs.map fun x => (⟨x.1.hash w, x.2.1, x.2.2⟩ : DictEntry) := by
  obtain ⟨o, es, ep, ho, hx, hd, he, _⟩ := x
  exact ⟨es, ep, ⟨o, ho, hx, hd⟩, he⟩
end

/-! ### keys -/
mutual
def KeyV (H : Hp) : NestedKey → V → Prop
  | .none, v => v = .non
  | .num i, v => v = .int i
  | .text x, v => v = .str x
  | .tup ks, v => ∃ p ys, v = .ref p ∧ H p = some (.tup ys) ∧ KeyVs H ks ys
def KeyVs (H : Hp) : List NestedKey → List V → Prop
  | [], ys => ys = []
  | k :: ks, ys => ∃ y r, ys = y :: r ∧ KeyV H k y ∧ KeyVs H ks r
end
section
variable {g : Gl} {ρ : Nat → Addr} {n : Nat} {H : Hp}
mutual
theorem keyV_of : ∀ {k : NestedKey} {v : V}, RV g ρ n H (kA k) v → KeyV H k v
  | .none, v, h => by unfold kA RV at h; unfold KeyV; exact h
  | .num i, v, h => by unfold kA RV at h; unfold KeyV; exact h
  | .text x, v, h => by unfold kA RV at h; unfold KeyV; exact h
  | .tup ks, v, h => by
    unfold kA RV at h
    unfold KeyV
    obtain ⟨p, ys, h1, h2, h3⟩ := h
    exact ⟨p, ys, h1, h2, keyVs_of h3⟩
theorem keyVs_of : ∀ {ks : List NestedKey} {vs : List V}, RVs g ρ n H (kA.kAs ks) vs → KeyVs H ks vs
  | [], vs, h => by unfold kA.kAs RVs at h; unfold KeyVs; exact h
  | k :: ks, vs, h => by
    unfold kA.kAs RVs at h
    unfold KeyVs
    obtain ⟨y, r, h1, h2, h3⟩ := h
    exact ⟨y, r, h1, keyV_of h2, keyVs_of h3⟩
end
end
section
variable {X : Cx} {pl : List (Addr × Obj)} {σ : St} {H : Hp} {s : Shared}
mutual
theorem nis (I : Inv X pl σ H s) : ∀ {k : NestedKey} {v : V} {u : Value}, KeyV H k v → RelV v u → NestedIs s.heap k u
  | .none, v, u, h, r => by unfold KeyV at h; subst h; rw [show u = Value.none from r]; exact .none
  | .num i, v, u, h, r => by unfold KeyV at h; subst h; obtain ⟨t, rfl⟩ := r; exact .int i t
  | .text x, v, u, h, r => by unfold KeyV at h; subst h; obtain ⟨t, rfl⟩ := r; exact .text x t
  | .tup ks, v, u, h, r => by
    unfold KeyV at h
    obtain ⟨p, ys, rfl, hp, hk⟩ := h
    rw [show u = Value.ref p from r]
    obtain ⟨im, vr, ⟨o, ho, hc, n, hd⟩, _⟩ := I.tuple (.of hp)
    exact .tup ho hc hd (by simpa using nisL I hk vr)
theorem nisL (I : Inv X pl σ H s) : ∀ {ks : List NestedKey} {vs : List V} {us : List Value}, KeyVs H ks vs → Vals vs us → NestedAll s.heap ks us
  | [], vs, us, h, r => by unfold KeyVs at h; subst h; cases r; exact .nil
  | k :: ks, vs, us, h, r => by
    unfold KeyVs at h
    obtain ⟨y, t, rfl, h1, h2⟩ := h
    cases r with
    | cons r1 r2 => exact .cons (nis I h1 r1) (nisL I h2 r2)
end
end

section
variable {g : Gl} {ρ : Nat → Addr} {n : Nat} {H : Hp}
mutual
theorem keyV_to : ∀ {k : NestedKey} {v : V}, KeyV H k v → RV g ρ n H (kA k) v
  | .none, v, h => by unfold KeyV at h; unfold kA RV; exact h
  | .num i, v, h => by unfold KeyV at h; unfold kA RV; exact h
  | .text x, v, h => by unfold KeyV at h; unfold kA RV; exact h
  | .tup ks, v, h => by
    unfold KeyV at h
    unfold kA RV
    obtain ⟨p, ys, h1, h2, h3⟩ := h
    exact ⟨p, ys, h1, h2, keyVs_to h3⟩
theorem keyVs_to : ∀ {ks : List NestedKey} {vs : List V}, KeyVs H ks vs → RVs g ρ n H (kA.kAs ks) vs
  | [], vs, h => by unfold KeyVs at h; unfold kA.kAs RVs; exact h
  | k :: ks, vs, h => by
    unfold KeyVs at h
    unfold kA.kAs RVs
    obtain ⟨y, r, h1, h2, h3⟩ := h
    exact ⟨y, r, h1, keyV_to h2, keyVs_to h3⟩
end
end
mutual
theorem KeyV.mono {H H' : Hp} (m : ∀ a xs, H a = some (.tup xs) → H' a = some (.tup xs)) : ∀ {k : NestedKey} {v : V}, KeyV H k v → KeyV H' k v
  | .none, v, h => by unfold KeyV at h ⊢; exact h
  | .num i, v, h => by unfold KeyV at h ⊢; exact h
  | .text x, v, h => by unfold KeyV at h ⊢; exact h
  | .tup ks, v, h => by
    unfold KeyV at h ⊢
    obtain ⟨p, ys, h1, h2, h3⟩ := h
    exact ⟨p, ys, h1, m _ _ h2, KeyVs.mono m h3⟩
theorem KeyVs.mono {H H' : Hp} (m : ∀ a xs, H a = some (.tup xs) → H' a = some (.tup xs)) : ∀ {ks : List NestedKey} {vs : List V}, KeyVs H ks vs → KeyVs H' ks vs
  | [], vs, h => by unfold KeyVs at h ⊢; exact h
  | k :: ks, vs, h => by
    unfold KeyVs at h ⊢
    obtain ⟨y, r, h1, h2, h3⟩ := h
    exact ⟨y, r, h1, h2.mono m, KeyVs.mono m h3⟩
end
/-- an abstract value as a key -/
def toK : Nat → A → Option NestedKey
  | _, .int i => some (.num i)
  | _, .str x => some (.text x)
  | _, .non => some .none
  | n + 1, .tup xs => match mapK (toK n) xs with
    | some ks => some (.tup ks)
    | none => none
  | _, _ => none
where mapK (f : A → Option NestedKey) : List A → Option (List NestedKey)
  | [] => some []
  | x :: xs => match f x, mapK f xs with
    | some y, some ys => some (y :: ys)
    | _, _ => none
theorem mapK_ok {f : A → Option NestedKey} {n : Nat} (hf : ∀ a k, f a = some k → kA k = a ∧ k.depth ≤ n) : ∀ {xs : List A} {ks : List NestedKey}, toK.mapK f xs = some ks → kA.kAs ks = xs ∧ NestedKey.depthAll ks ≤ n
  | [], ks, e => by
    unfold toK.mapK at e; cases e
    exact ⟨by unfold kA.kAs; rfl, by unfold NestedKey.depthAll; exact Nat.zero_le _⟩
  | x :: xs, ks, e => by
    unfold toK.mapK at e
    split at e
    · rename_i y ys h1 h2
      cases e
      obtain ⟨a1, a2⟩ := hf _ _ h1
      obtain ⟨b1, b2⟩ := mapK_ok hf h2
      exact ⟨by unfold kA.kAs; rw [a1, b1], by unfold NestedKey.depthAll; exact Nat.max_le.mpr ⟨a2, b2⟩⟩
    · cases e
theorem toK_ok : ∀ (n : Nat) (a : A) (k : NestedKey), toK n a = some k → kA k = a ∧ k.depth ≤ n
  | n, .int i, k, e => by
    have e : some (NestedKey.num i) = some k := by cases n <;> (unfold toK at e; exact e)
    cases e
    exact ⟨by unfold kA; rfl, by unfold NestedKey.depth; exact Nat.zero_le _⟩
  | n, .str i, k, e => by
    have e : some (NestedKey.text i) = some k := by cases n <;> (unfold toK at e; exact e)
    cases e
    exact ⟨by unfold kA; rfl, by unfold NestedKey.depth; exact Nat.zero_le _⟩
  | n, .non, k, e => by
    have e : some NestedKey.none = some k := by cases n <;> (unfold toK at e; exact e)
    cases e
    exact ⟨by unfold kA; rfl, by unfold NestedKey.depth; exact Nat.zero_le _⟩
  | n + 1, .tup xs, k, e => by
    unfold toK at e
    split at e
    · rename_i ks h1
      cases e
      obtain ⟨a1, a2⟩ := mapK_ok (fun a k => toK_ok n a k) h1
      exact ⟨by unfold kA; rw [a1], by unfold NestedKey.depth; omega⟩
    · cases e
  | 0, .tup xs, k, e => by unfold toK at e; cases e
  | 0, .bl _, k, e => by unfold toK at e; cases e
  | n + 1, .bl _, k, e => by unfold toK at e; cases e
  | 0, .ref _, k, e => by unfold toK at e; cases e
  | n + 1, .ref _, k, e => by unfold toK at e; cases e
  | 0, .ty _, k, e => by unfold toK at e; cases e
  | n + 1, .ty _, k, e => by unfold toK at e; cases e
  | 0, .fn _, k, e => by unfold toK at e; cases e
  | n + 1, .fn _, k, e => by unfold toK at e; cases e
  | 0, .opq, k, e => by unfold toK at e; cases e
  | n + 1, .opq, k, e => by unfold toK at e; cases e
  | 0, .exc _, k, e => by unfold toK at e; cases e
  | n + 1, .exc _, k, e => by unfold toK at e; cases e

/-! ### a dict, by values -/
def lk : NestedKey → Key
  | .num i => .inl i
  | .text x => .inr x
  | _ => .inl 0
def nk : Key → NestedKey
  | .inl i => .num i
  | .inr x => .text x
def ra : Value → Addr
  | .ref a => a
  | _ => 0
theorem nk_lk {k : NestedKey} (h : kind k = some false) : nk (lk k) = k := by
  cases k with
  | none => cases h
  | num i => rfl
  | text x => rfl
  | tup ks => cases h
theorem kind_nk (k : Key) : kind (nk k) = some false := by cases k <;> rfl
theorem lk_nk (k : Key) : lk (nk k) = k := by cases k <;> rfl
theorem lk_inj {k j : NestedKey} (h : kind k = some false) (h' : kind j = some false) (e : lk k = lk j) : k = j := by rw [← nk_lk h, ← nk_lk h', e]
theorem hash_lk {w : World} {k : NestedKey} (h : kind k = some false) : k.hash w = keyH w (lk k) := by
  cases k with
  | none => cases h
  | num i => rw [NestedKey.hash]; rfl
  | text x => rw [NestedKey.hash]; rfl
  | tup ks => cases h
theorem is_lk {H : Hp} {k : NestedKey} {v : V} {u : Value} (h : kind k = some false) (q : KeyV H k v) (r : RelV v u) : keyIs (lk k) u = true := by
  cases k with
  | none => cases h
  | num i => unfold KeyV at q; subst q; obtain ⟨t, rfl⟩ := r; exact keyIs_int i t
  | text x => unfold KeyV at q; subst q; obtain ⟨t, rfl⟩ := r; exact keyIs_str x t
  | tup ks => cases h
theorem of_is {H : Hp} {k : Key} {u : Value} (h : keyIs k u = true) : ∃ v, RelV v u ∧ KeyV H (nk k) v := by
  obtain ⟨i, t, rfl, rfl⟩ | ⟨x, t, rfl, rfl⟩ := keyIs_shape h
  · exact ⟨.int i, ⟨t, rfl⟩, by unfold nk KeyV; rfl⟩
  · exact ⟨.str x, ⟨t, rfl⟩, by unfold nk KeyV; rfl⟩
theorem ref_of {H : Hp} {k : NestedKey} {v : V} {u : Value} (h : kind k = some true) (q : KeyV H k v) (r : RelV v u) : u = .ref (ra u) := by
  cases k with
  | none => cases h
  | num i => cases h
  | text x => cases h
  | tup ks =>
    unfold KeyV at q
    obtain ⟨p, ys, rfl, _⟩ := q
    rw [show u = Value.ref p from r]
    rfl
structure Dv (w : World) (H : Hp) (d : Addr) (fz b : Bool) (vs : Rw) : Prop where
  sys : (d == sysModules) = false
  at_ : RF H d (dO w d vs) fz
  key : ∀ x ∈ vs, kind x.1 = some b ∧ x.1.depth ≤ 8 ∧ ∃ v, RelV v x.2.1 ∧ KeyV H x.1 v
  dup : (vs.map (·.1)).Nodup
  len : vs.length ≤ sizeLine
theorem Paired.memR {α β : Type} {F : α → β → Prop} : ∀ {l : List α} {m : List β}, Paired F l m → ∀ y ∈ m, ∃ x ∈ l, F x y
  | _, _, .cons r t, y, h => by
    obtain e | h := List.mem_cons.mp h
    · subst e; exact ⟨_, List.mem_cons_self .., r⟩
    · obtain ⟨x, h1, h2⟩ := Paired.memR t y h
      exact ⟨x, List.mem_cons_of_mem _ h1, h2⟩
section
variable {g : Gl} {ρ : Nat → Addr} {n : Nat} {H : Hp} {d : Addr} {fz b : Bool} {kvs : List (NestedKey × A)} {vs : Rw}
theorem rel_keys : ∀ {kvs : List (NestedKey × A)} {vs : Rw}, Paired (RE g ρ n H) kvs vs → kvs.map (·.1) = vs.map (·.1)
  | _, _, .nil => rfl
  | _, _, .cons r t => by rw [List.map_cons, List.map_cons, rel_keys t, r.1]
theorem RD.dv (r : RD g ρ n H d kvs vs) (f : RF H d (dO g.w d vs) fz) (hb : ∀ x ∈ kvs, kind x.1 = some b) : Dv g.w H d fz b vs where
  sys := r.sys
  at_ := f
  key := fun y hy => by
    obtain ⟨x, hx, h1, ⟨v, h2, h3⟩, _⟩ := Paired.memR r.rel y hy
    obtain ⟨_, hu⟩ := r.uni
    rw [← h1]
    exact ⟨hb x hx, (hu x hx).2, v, h2, keyV_of h3⟩
  dup := by rw [← rel_keys r.rel]; exact r.dup
  len := by rw [← Paired.length r.rel]; exact r.len
end
section
variable {X : Cx} {pl : List (Addr × Obj)} {σ : St} {H : Hp} {s : Shared} {d : Addr} {fz : Bool} {vs : Rw}
def pK (x : NestedKey × Value × Value) : Key × Value := (lk x.1, x.2.2)
def pN (x : NestedKey × Value × Value) : NestedKey × Addr × Value := (x.1, ra x.2.1, x.2.2)
theorem nodup_map {α β : Type} (f : α → β) : ∀ {l : List α}, l.Nodup → (∀ x ∈ l, ∀ y ∈ l, f x = f y → x = y) → (l.map f).Nodup
  | [], _, _ => List.nodup_nil
  | x :: l, h, inj => by
    rw [List.nodup_cons] at h
    rw [List.map_cons, List.nodup_cons]; refine ⟨fun m => ?_, nodup_map f h.2 fun a ha b hb => inj a (List.mem_cons_of_mem _ ha) b (List.mem_cons_of_mem _ hb)⟩
    obtain ⟨y, hy, e⟩ := List.mem_map.mp m
    have := inj y (List.mem_cons_of_mem _ hy) x (List.mem_cons_self ..) e
    subst this
    exact h.1 hy
theorem pairs_of {P : Program} {w : World} : ∀ {vs : Rw}, (∀ x ∈ vs, keyIs (lk x.1) x.2.1 = true) → Pairs (mixKind P w) (vs.map fun x => (⟨x.1.hash w, x.2.1, x.2.2⟩ : DictEntry)) (vs.map pK)
  | [], _ => .nil
  | x :: vs, h => .cons (h x (List.mem_cons_self ..)) rfl (pairs_of fun y hy => h y (List.mem_cons_of_mem _ hy))
theorem Dv.leaf (I : Inv X pl σ H s) (D : Dv X.w H d fz false vs) : s.heap.DictOf (mixKind X.prog X.w) d (vs.map pK) := by
  obtain ⟨o, es, ep, ho, hx, hd, he, hn⟩ := draw_get I D.at_
  have hk : ∀ x ∈ vs, keyIs (lk x.1) x.2.1 = true := fun x m => by
    obtain ⟨h1, _, v, h2, h3⟩ := D.key x m
    exact is_lk h1 h3 h2
  refine ⟨o, es, ep, ho, hx, hd, fun e hm => ?_, by rw [he]; exact pairs_of hk, ?_⟩
  · have hm : e ∈ es.toList := Array.mem_toList_iff.mpr hm
    rw [he] at hm
    obtain ⟨x, m, rfl⟩ := List.mem_map.mp hm
    exact ⟨lk x.1, hk x m, hash_lk (D.key x m).1⟩
  · rw [List.map_map]
    have := nodup_map lk D.dup (fun a ha c hc e => by
      obtain ⟨x, hx, rfl⟩ := List.mem_map.mp ha
      obtain ⟨y, hy, rfl⟩ := List.mem_map.mp hc
      exact lk_inj (D.key x hx).1 (D.key y hy).1 e)
    rw [List.map_map] at this
    exact this
theorem Dv.nest (I : Inv X pl σ H s) (D : Dv X.w H d fz true vs) : s.heap.DictOfH (nestedKind X.prog X.w) d (vs.map pN) := by
  obtain ⟨o, es, ep, ho, hx, hd, he, hn⟩ := draw_get I D.at_
  refine ⟨o, es, ep, ho, hx, hd, ?_, fun x m => ?_, ?_⟩
  · rw [he, List.map_map]
    refine List.map_congr_left fun x m => ?_
    obtain ⟨h1, _, v, h2, h3⟩ := D.key x m
    show (⟨x.1.hash X.w, x.2.1, x.2.2⟩ : DictEntry) = ⟨x.1.hash X.w, .ref (ra x.2.1), x.2.2⟩
    rw [← ref_of h1 h3 h2]
  · obtain ⟨y, my, rfl⟩ := List.mem_map.mp m
    obtain ⟨h1, h4, v, h2, h3⟩ := D.key y my
    refine ⟨?_, h4⟩
    show NestedIs s.heap y.1 (.ref (ra y.2.1))
    rw [← ref_of h1 h3 h2]
    exact nis I h3 h2
  · rw [List.map_map]
    exact D.dup
end
end Ev

namespace Ev
open PySem PySem.Spec L2
open PyProof.Rows hiding St

/-! ### looking up -/
def rget (k : NestedKey) (vs : Rw) : Option Value := (vs.find? fun x => decide (x.1 = k)).map (·.2.2)
theorem rget_leaf {k : NestedKey} (hk : kind k = some false) : ∀ {vs : Rw}, (∀ x ∈ vs, kind x.1 = some false) → valueAt (vs.map pK) (lk k) = rget k vs
  | [], _ => rfl
  | x :: vs, h => by
    have ih := rget_leaf hk fun y hy => h y (List.mem_cons_of_mem _ hy)
    unfold valueAt rget at ih ⊢
    by_cases e : x.1 = k
    · have e' : (pK x).1 = lk k := congrArg lk e
      rw [List.map_cons, List.find?_cons, List.find?_cons, decide_eq_true e, decide_eq_true e']
      rfl
    · have e' : ¬ (pK x).1 = lk k := fun z => e (lk_inj (h x (List.mem_cons_self ..)) hk z)
      rw [List.map_cons, List.find?_cons, List.find?_cons, decide_eq_false e, decide_eq_false e']
      exact ih
theorem rget_nest {k : NestedKey} : ∀ {vs : Rw}, (atKey (vs.map pN) k).map (·.2) = rget k vs
  | [] => rfl
  | x :: vs => by
    have ih := rget_nest (k := k) (vs := vs)
    unfold atKey rget at ih ⊢
    by_cases e : x.1 = k
    · have e' : (pN x).1 = k := e
      rw [List.map_cons, List.find?_cons, List.find?_cons, decide_eq_true e, decide_eq_true e']
      rfl
    · have e' : ¬ (pN x).1 = k := e
      rw [List.map_cons, List.find?_cons, List.find?_cons, decide_eq_false e, decide_eq_false e']
      exact ih
def getK (k : NestedKey) : List (NestedKey × A) → Option A
  | [] => none
  | x :: r => match NestedKey.beq x.1 k with
    | true => some x.2
    | false => getK k r
theorem beq_iff {a b : NestedKey} : NestedKey.beq a b = true ↔ a = b := ⟨NestedKey.eq_of_beq a b, fun e => e ▸ NestedKey.beq_self a⟩
section
variable {g : Gl} {ρ : Nat → Addr} {n : Nat} {H : Hp}
def LkR (g : Gl) (ρ : Nat → Addr) (n : Nat) (H : Hp) (o : Option Value) : Option A → Prop
  | some a => ∃ u, o = some u ∧ RU g ρ n H a u
  | none => o = none
theorem getK_rel {k : NestedKey} : ∀ {kvs : List (NestedKey × A)} {vs : Rw}, Paired (RE g ρ n H) kvs vs → LkR g ρ n H (rget k vs) (getK k kvs)
  | _, _, .nil => rfl
  | x :: kvs, y :: vs, .cons r t => by
    have ih := getK_rel (k := k) t
    unfold getK
    unfold rget at ih ⊢
    cases e : NestedKey.beq x.1 k with
    | true =>
      have e := beq_iff.mp e
      rw [List.find?_cons, decide_eq_true (r.1.symm.trans e)]
      exact ⟨_, rfl, r.2.2⟩
    | false =>
      have e' : ¬ y.1 = k := fun z => by rw [beq_iff.mpr (r.1.trans z)] at e; cases e
      rw [List.find?_cons, decide_eq_false e']
      exact ih
end

/-! ### what the machine does with a dict -/
section
variable {X : Cx} {pl : List (Addr × Obj)} {σ : St} {H : Hp} {s : Shared} {d : Addr} {fz b : Bool} {vs : Rw} {A : Around} {E : Value → Shared → Prop} {k : NestedKey} {y : V} {u : Value}
theorem room8 (hu : A.units + 9 < cLine) : (nestedKind X.prog X.w).room A.in1 := by
  show A.units + 1 + 8 < cLine
  omega
theorem dv_key (I : Inv X pl σ H s) (hk : kind k = some true) (hd : k.depth ≤ 8) (q : KeyV H k y) (r : RelV y u) : ∃ a, u = .ref a ∧ (nestedKind X.prog X.w).is s.heap k a := by
  refine ⟨ra u, ref_of hk q r, ?_, hd⟩
  rw [← ref_of hk q r]
  exact nis I q r
theorem Dv.kinds (D : Dv X.w H d fz b vs) : ∀ x ∈ vs, kind x.1 = some b := fun x m => (D.key x m).1
theorem dv_in {Q : Value → Shared → Prop} (hu : A.units + 9 < cLine) (I : Inv X pl σ H s) (D : Dv X.w H d fz b vs) (hk : kind k = some b) (hd : k.depth ≤ 8) (q : KeyV H k y) (r : RelV y u)
    (h : ∀ s', Inv X pl σ H s' → Q (.bool (rget k vs).isSome) s') : wpAny (model X.prog X.w) A (compareOp .In u (.ref d)) Q E s := by
  cases b with
  | false =>
    refine wpAny_in_of (is_lk hk q r) D.sys (D.leaf I).mapOf ?_
    rw [show valueAt (vs.map pK) (lk k) = rget k vs from rget_leaf hk D.kinds]
    exact h _ (I.tok _)
  | true =>
    obtain ⟨a, rfl, ha⟩ := dv_key I hk hd q r
    refine wpAny_in_heap (room8 hu) ha D.sys (D.nest I) ?_
    have := rget_nest (k := k) (vs := vs)
    rw [← Option.isSome_map, this]
    exact h _ (I.tok _)
theorem dv_notIn {Q : Value → Shared → Prop} (hu : A.units + 9 < cLine) (I : Inv X pl σ H s) (D : Dv X.w H d fz b vs) (hk : kind k = some b) (hd : k.depth ≤ 8) (q : KeyV H k y) (r : RelV y u)
    (h : ∀ s', Inv X pl σ H s' → Q (.bool (!(rget k vs).isSome)) s') : wpAny (model X.prog X.w) A (compareOp .NotIn u (.ref d)) Q E s := by
  cases b with
  | false =>
    refine wpAny_notIn_of (is_lk hk q r) D.sys (D.leaf I).mapOf ?_
    rw [show valueAt (vs.map pK) (lk k) = rget k vs from rget_leaf hk D.kinds]
    exact h _ (I.tok _)
  | true =>
    obtain ⟨a, rfl, ha⟩ := dv_key I hk hd q r
    refine wpAny_notIn_heap (room8 hu) ha D.sys (D.nest I) ?_
    have := rget_nest (k := k) (vs := vs)
    rw [← Option.isSome_map, this]
    exact h _ (I.tok _)
theorem dv_item {Q : Value → Shared → Prop} {v : Value} (hu : A.units + 9 < cLine) (I : Inv X pl σ H s) (D : Dv X.w H d fz b vs) (hk : kind k = some b) (hd : k.depth ≤ 8) (q : KeyV H k y) (r : RelV y u)
    (e : rget k vs = some v) (h : ∀ s', Inv X pl σ H s' → Q v s') : wpAny (model X.prog X.w) A (getItem (.ref d) u) Q E s := by
  cases b with
  | false => exact wpAny_getItem_of (is_lk hk q r) (D.leaf I).mapOf (show valueAt (vs.map pK) (lk k) = some v by rw [rget_leaf hk D.kinds, e]) (h _ (I.tok _))
  | true =>
    obtain ⟨a, rfl, ha⟩ := dv_key I hk hd q r
    have e' := rget_nest (k := k) (vs := vs)
    rw [e] at e'
    obtain ⟨p, hp, hv⟩ := Option.map_eq_some_iff.mp e'
    refine wpAny_getItem_heap (room8 hu) ha (D.nest I) hp ?_
    rw [hv]
    exact h _ (I.tok _)
theorem dv_get1 {Q : Value → Shared → Prop} (hu : A.units + 9 < cLine) (I : Inv X pl σ H s) (D : Dv X.w H d fz b vs) (hk : kind k = some b) (hd : k.depth ≤ 8) (q : KeyV H k y) (r : RelV y u)
    (h : ∀ s', Inv X pl σ H s' → Q ((rget k vs).getD .none) s') : wpAny (model X.prog X.w) A (call (.builtin "dict.get") [.ref d, u]) Q E s := by
  cases b with
  | false =>
    refine call_meetsIn PySem.F.slot_dict_get (D.leaf I).typeIs PySem.F.entry_dict_get (PySem.F.args_dict_get_2 _ _) (meets_dict_get (mixKind X.prog X.w) d (is_lk hk q r) D.sys) ⟨_, (D.leaf I).mapOf, ?_⟩
    rw [show valueAt (vs.map pK) (lk k) = rget k vs from rget_leaf hk D.kinds]
    exact h _ (I.tok _)
  | true =>
    obtain ⟨a, rfl, ha⟩ := dv_key I hk hd q r
    have e' := rget_nest (k := k) (vs := vs)
    refine call_meetsIn PySem.F.slot_dict_get (D.nest I).typeIs PySem.F.entry_dict_get (PySem.F.args_dict_get_2 _ _) (meetsH_dict_get (nestedKind X.prog X.w) d a D.sys) ⟨room8 hu, k, _, ha, D.nest I, ?_⟩
    have h := h _ (I.tok (s.toks + (nestedKind X.prog X.w).draws k))
    rw [← e'] at h
    exact h
theorem dv_get2 {Q : Value → Shared → Prop} {z : Value} (hu : A.units + 9 < cLine) (I : Inv X pl σ H s) (D : Dv X.w H d fz b vs) (hk : kind k = some b) (hd : k.depth ≤ 8) (q : KeyV H k y) (r : RelV y u)
    (h : ∀ s', Inv X pl σ H s' → Q ((rget k vs).getD z) s') : wpAny (model X.prog X.w) A (call (.builtin "dict.get") [.ref d, u, z]) Q E s := by
  cases b with
  | false =>
    refine call_meetsIn PySem.F.slot_dict_get (D.leaf I).typeIs PySem.F.entry_dict_get (PySem.F.args_dict_get_3 _ _ _) (meets_dict_get_default (mixKind X.prog X.w) d (is_lk hk q r) D.sys z) ⟨_, (D.leaf I).mapOf, ?_⟩
    rw [show valueAt (vs.map pK) (lk k) = rget k vs from rget_leaf hk D.kinds]
    exact h _ (I.tok _)
  | true =>
    obtain ⟨a, rfl, ha⟩ := dv_key I hk hd q r
    have e' := rget_nest (k := k) (vs := vs)
    refine call_meetsIn PySem.F.slot_dict_get (D.nest I).typeIs PySem.F.entry_dict_get (PySem.F.args_dict_get_3 _ _ _) (meetsH_dict_get_default (nestedKind X.prog X.w) d a D.sys z) ⟨room8 hu, k, _, ha, D.nest I, ?_⟩
    have h := h _ (I.tok (s.toks + (nestedKind X.prog X.w).draws k))
    rw [← e'] at h
    exact h
end
end Ev

namespace Ev
open PySem PySem.Spec L2
open PyProof.Rows hiding St

/-! ### storing -/
def rput (k : NestedKey) (kv u : Value) : Rw → Rw
  | [] => [(k, kv, u)]
  | x :: r => if x.1 = k then (x.1, x.2.1, u) :: r else x :: rput k kv u r
def putA (k : NestedKey) (a : A) : List (NestedKey × A) → List (NestedKey × A)
  | [] => [(k, a)]
  | x :: r => match NestedKey.beq x.1 k with
    | true => (x.1, a) :: r
    | false => x :: putA k a r
theorem stored_cons {κ : Type} [DecidableEq κ] (p : κ × Value) (l : List (κ × Value)) (k : κ) (v : Value) (hn : p.1 ∉ l.map (·.1)) : stored (p :: l) k v = if p.1 = k then (p.1, v) :: l else p :: stored l k v := by
  unfold stored
  by_cases e : p.1 = k
  · rw [if_pos e, List.any_cons, decide_eq_true e, Bool.true_or, if_pos rfl, List.map_cons, if_pos e, map_store_of_not_mem l k v (fun m => hn (e ▸ m))]
  · rw [if_neg e, List.any_cons, decide_eq_false e, Bool.false_or]
    split
    · rw [List.map_cons, if_neg e]
    · rfl
theorem storedH_cons {κ : Type} [DecidableEq κ] (p : κ × Addr × Value) (l : List (κ × Addr × Value)) (k : κ) (a : Addr) (v : Value) (hn : p.1 ∉ l.map (·.1)) : storedH (p :: l) k a v = if p.1 = k then (p.1, p.2.1, v) :: l else p :: storedH l k a v := by
  unfold storedH
  by_cases e : p.1 = k
  · have h1 : (atKey (p :: l) k).isSome = true := by unfold atKey; rw [List.find?_cons, decide_eq_true e]; rfl
    rw [if_pos e, if_pos h1, List.map_cons, putAt, if_pos e, map_putAt_of_not_mem l k v (fun m => hn (e ▸ m))]
  · have h1 : atKey (p :: l) k = atKey l k := by unfold atKey; rw [List.find?_cons, decide_eq_false e]
    rw [if_neg e, h1]
    split
    · rw [List.map_cons, putAt, if_neg e]
    · rfl
theorem stored_leaf {k : NestedKey} {kv u : Value} (hk : kind k = some false) : ∀ {vs : Rw}, (∀ x ∈ vs, kind x.1 = some false) → (vs.map (·.1)).Nodup → stored (vs.map pK) (lk k) u = (rput k kv u vs).map pK
  | [], _, _ => rfl
  | x :: vs, h, hn => by
    rw [List.map_cons, List.nodup_cons] at hn; have ih := stored_leaf (kv := kv) (u := u) hk (fun y hy => h y (List.mem_cons_of_mem _ hy)) hn.2
    rw [List.map_cons, stored_cons]
    · unfold rput
      by_cases e : x.1 = k
      · have e' : (pK x).1 = lk k := congrArg lk e
        rw [if_pos e, if_pos e']; rfl
      · have e' : ¬ (pK x).1 = lk k := fun z => e (lk_inj (h x (List.mem_cons_self ..)) hk z)
        rw [if_neg e, if_neg e', ih]; rfl
    · intro m
      rw [List.map_map] at m
      obtain ⟨y, hy, e⟩ := List.mem_map.mp m
      have := lk_inj (h y (List.mem_cons_of_mem _ hy)) (h x (List.mem_cons_self ..)) e
      exact hn.1 (this ▸ List.mem_map.mpr ⟨y, hy, rfl⟩)
theorem stored_nest {k : NestedKey} {kv u : Value} : ∀ {vs : Rw}, (vs.map (·.1)).Nodup → storedH (vs.map pN) k (ra kv) u = (rput k kv u vs).map pN
  | [], _ => rfl
  | x :: vs, hn => by
    rw [List.map_cons, List.nodup_cons] at hn; have ih := stored_nest (k := k) (kv := kv) (u := u) hn.2
    rw [List.map_cons, storedH_cons]
    · unfold rput
      by_cases e : x.1 = k
      · have e' : (pN x).1 = k := e
        rw [if_pos e, if_pos e']; rfl
      · have e' : ¬ (pN x).1 = k := e
        rw [if_neg e, if_neg e', ih]; rfl
    · intro m
      rw [List.map_map] at m
      exact hn.1 m
theorem rput_mem {k : NestedKey} {kv u : Value} : ∀ {vs : Rw} {x : NestedKey × Value × Value}, x ∈ rput k kv u vs → x = (k, kv, u) ∨ ∃ y ∈ vs, y.1 = x.1 ∧ y.2.1 = x.2.1
  | [], x, m => by
    unfold rput at m
    exact .inl (List.mem_singleton.mp m)
  | y :: vs, x, m => by
    unfold rput at m
    split at m
    · rcases List.mem_cons.mp m with e | m
      · subst e; exact .inr ⟨y, List.mem_cons_self .., rfl, rfl⟩
      · exact .inr ⟨x, List.mem_cons_of_mem _ m, rfl, rfl⟩
    · rcases List.mem_cons.mp m with e | m
      · subst e; exact .inr ⟨_, List.mem_cons_self .., rfl, rfl⟩
      · rcases rput_mem m with e | ⟨z, h1, h2⟩
        · exact .inl e
        · exact .inr ⟨z, List.mem_cons_of_mem _ h1, h2⟩
theorem rput_keys {k : NestedKey} {kv u : Value} : ∀ {vs : Rw} {j : NestedKey}, j ∈ (rput k kv u vs).map (·.1) → j = k ∨ j ∈ vs.map (·.1)
  | vs, j, m => by
    obtain ⟨x, hx, rfl⟩ := List.mem_map.mp m
    rcases rput_mem hx with e | ⟨y, h1, h2, _⟩
    · subst e; exact .inl rfl
    · exact .inr (h2 ▸ List.mem_map.mpr ⟨y, h1, rfl⟩)
theorem rput_dup {k : NestedKey} {kv u : Value} : ∀ {vs : Rw}, (vs.map (·.1)).Nodup → ((rput k kv u vs).map (·.1)).Nodup
  | [], _ => by unfold rput; simp
  | x :: vs, hn => by
    rw [List.map_cons, List.nodup_cons] at hn; unfold rput
    split
    · rw [List.map_cons, List.nodup_cons]; exact hn
    · rename_i e
      rw [List.map_cons, List.nodup_cons]; refine ⟨fun m => ?_, rput_dup hn.2⟩
      rcases rput_keys m with z | z
      · exact e z
      · exact hn.1 z
theorem rput_len {k : NestedKey} {kv u : Value} : ∀ {vs : Rw}, (rput k kv u vs).length ≤ vs.length + 1
  | [] => Nat.le_refl _
  | x :: vs => by
    unfold rput
    split
    · (simp only [List.length_cons]; omega)
    · simp only [List.length_cons]; have := rput_len (k := k) (kv := kv) (u := u) (vs := vs); omega
/-- the raw dict out of the library's words -/
theorem raw_of_pairs {P : Program} {w : World} {H : Hp} : ∀ {es : List DictEntry} {ws : List (Key × Value)}, Pairs (mixKind P w) es ws → (∀ e ∈ es, ∃ k, keyIs k e.key = true ∧ e.hash = keyH w k) →
    ∃ vs : Rw, es = vs.map (fun x => (⟨x.1.hash w, x.2.1, x.2.2⟩ : DictEntry)) ∧ vs.map pK = ws ∧ ∀ x ∈ vs, kind x.1 = some false ∧ keyIs (lk x.1) x.2.1 = true
  | _, _, .nil, _ => ⟨[], rfl, rfl, fun _ m => nomatch m⟩
  | e :: es, q :: ws, .cons h1 h2 t, hk => by
    obtain ⟨vs, a1, a2, a3⟩ := raw_of_pairs (H := H) t fun e m => hk e (List.mem_cons_of_mem _ m)
    obtain ⟨j, h3, h4⟩ := hk e (List.mem_cons_self ..)
    have ej : j = q.1 := (mixKind P w).inj e.key j q.1 h3 h1
    subst ej
    refine ⟨(nk q.1, e.key, e.val) :: vs, ?_, ?_, fun x m => ?_⟩
    · rw [List.map_cons, ← a1]
      have : e = (⟨(nk q.1).hash w, e.key, e.val⟩ : DictEntry) := by
        rw [hash_lk (kind_nk q.1), lk_nk, ← h4]
      rw [← this]
    · rw [List.map_cons, a2]
      show (lk (nk q.1), e.val) :: ws = q :: ws
      rw [lk_nk, h2]
    · rcases List.mem_cons.mp m with z | m
      · subst z
        refine ⟨kind_nk _, ?_⟩
        show keyIs (lk (nk q.1)) e.key = true
        rw [lk_nk]; exact h1
      · exact a3 x m
/-- what stands there behind a store: keys and values as told; the keys' values are keys -/
structure Sm (vs ws : Rw) : Prop where
  rel : Paired (fun (x y : NestedKey × Value × Value) => x.1 = y.1 ∧ x.2.2 = y.2.2 ∧ (x.2.1 = y.2.1 ∨ (kind y.1 = some false ∧ keyIs (lk y.1) y.2.1 = true))) vs ws
theorem sm_refl (vs : Rw) : Sm vs vs := by
  refine ⟨?_⟩
  induction vs with
  | nil => exact .nil
  | cons x vs ih => exact .cons ⟨rfl, rfl, .inl rfl⟩ ih
theorem sm_of_map : ∀ {vs ws : Rw}, vs.map pK = ws.map pK → (∀ x ∈ vs, kind x.1 = some false) → (∀ x ∈ ws, kind x.1 = some false ∧ keyIs (lk x.1) x.2.1 = true) → Sm vs ws
  | [], [], _, _, _ => ⟨.nil⟩
  | [], _ :: _, e, _, _ => nomatch e
  | _ :: _, [], e, _, _ => nomatch e
  | x :: vs, y :: ws, e, h1, h2 => by
    rw [List.map_cons] at e
    rw [List.map_cons] at e
    injection e with e1 e2
    have e3 : lk x.1 = lk y.1 := congrArg (fun (p : Key × Value) => p.1) e1
    have e4 : x.2.2 = y.2.2 := congrArg (fun (p : Key × Value) => p.2) e1
    have h3 := h2 y (List.mem_cons_self ..)
    exact ⟨.cons ⟨lk_inj (h1 x (List.mem_cons_self ..)) h3.1 e3, e4, .inr h3⟩ (sm_of_map e2 (fun z hz => h1 z (List.mem_cons_of_mem _ hz)) fun z hz => h2 z (List.mem_cons_of_mem _ hz)).rel⟩
section
variable {X : Cx} {pl : List (Addr × Obj)} {σ : St} {H : Hp} {s : Shared} {d : Addr} {b : Bool} {vs : Rw} {A : Around} {E : Value → Shared → Prop} {k : NestedKey} {y : V} {u z : Value}
theorem dv_write {h' : Heap} {t' : Nat} {ws : Rw} (I : Inv X pl σ H s) (D : Dv X.w H d false b vs) (hs : Heap.SameBut d s.heap h') (new : DRaw X.w d ws h') : Inv X pl σ (upd H d (dO X.w d ws)) { s with heap := h', toks := t' } := by
  have he : ∃ q, h'.get? d = some q := let ⟨q, _, _, hq, _⟩ := new; ⟨q, hq⟩
  have e : H d = some (dO X.w d vs) := D.at_
  exact I.write (x := d) (e := d) (by rw [e]; exact True.intro) (.inl rfl) (fun b q hb z => (hs.2 b hb).trans z) he (draw_new new)
theorem dv_set {Q : Unit → Shared → Prop} (hu : A.units + 9 < cLine) (I : Inv X pl σ H s) (D : Dv X.w H d false b vs) (hk : kind k = some b) (hd : k.depth ≤ 8) (q : KeyV H k y) (r : RelV y u)
    (h : ∀ ws s', Sm (rput k u z vs) ws → Inv X pl σ (upd H d (dO X.w d ws)) s' → Q () s') : wpAny (model X.prog X.w) A (setItem (.ref d) u z) Q E s := by
  cases b with
  | false =>
    refine wpAny_setItem_pairs (hsz := by rw [List.length_map]; exact D.len) (is_lk hk q r) (D.leaf I) fun h' dd' hs => ?_
    rw [stored_leaf (kv := u) hk D.kinds D.dup] at dd'
    obtain ⟨o, es, ep, ho, hx, he, hko, hp, hn⟩ := dd'
    obtain ⟨ws, a1, a2, a3⟩ := raw_of_pairs (H := H) hp fun e m => hko e (Array.mem_toList_iff.mp m)
    have hkk : ∀ x ∈ rput k u z vs, kind x.1 = some false := fun x m => by
      rcases rput_mem m with e | ⟨v, h1, h2, _⟩
      · subst e; exact hk
      · rw [← h2]; exact (D.key v h1).1
    have sm := sm_of_map a2.symm hkk a3
    refine h ws _ sm (dv_write I D hs ⟨o, es, ep, ho, hx, he, a1, ?_⟩)
    rw [← a2, List.map_map] at hn
    refine List.Pairwise.of_map (S := fun a c => a ≠ c) lk (fun a c hne e => hne (congrArg lk e)) ?_
    rw [List.map_map]; exact hn
  | true =>
    obtain ⟨a, rfl, ha⟩ := dv_key I hk hd q r
    refine wpAny_setItem_heap (hsz := by rw [List.length_map]; exact D.len) (room8 hu) ha (D.nest I) fun h' dd' hs => ?_
    rw [show a = ra (.ref a) from rfl, stored_nest D.dup] at dd'
    obtain ⟨o, es, ep, ho, hx, he, a1, hi, hn⟩ := dd'
    refine h _ _ (sm_refl _) (dv_write I D hs ⟨o, es, ep, ho, hx, he, ?_, ?_⟩)
    · rw [a1, List.map_map]
      refine List.map_congr_left fun x m => ?_
      show (⟨x.1.hash X.w, .ref (ra x.2.1), x.2.2⟩ : DictEntry) = ⟨x.1.hash X.w, x.2.1, x.2.2⟩
      rcases rput_mem m with e | ⟨v, h1, h2, h3⟩
      · subst e; rfl
      · obtain ⟨z1, _, w, z2, z3⟩ := D.key v h1
        rw [← h3, ← ref_of z1 z3 z2]
    · exact rput_dup D.dup
end

/-! ### .. in the abstract heap -/
section
variable {g : Gl} {ρ : Nat → Addr} {n : Nat} {H : Hp}
theorem RE.sm {x : NestedKey × A} {y z : NestedKey × Value × Value} (r : RE g ρ n H x y) (e : y.1 = z.1 ∧ y.2.2 = z.2.2 ∧ (y.2.1 = z.2.1 ∨ (kind z.1 = some false ∧ keyIs (lk z.1) z.2.1 = true))) : RE g ρ n H x z := by
  obtain ⟨r1, r2, r3⟩ := r
  obtain ⟨e1, e2, e3⟩ := e
  refine ⟨r1.trans e1, ?_, e2 ▸ r3⟩
  rcases e3 with e3 | ⟨e3, e4⟩
  · exact e3 ▸ r2
  · obtain ⟨v, h1, h2⟩ := of_is (H := H) e4
    rw [nk_lk e3] at h2
    rw [r1.trans e1]
    exact ⟨v, h1, keyV_to h2⟩
theorem rel_sm : ∀ {kvs : List (NestedKey × A)} {vs ws : Rw}, Paired (RE g ρ n H) kvs vs → Sm vs ws → Paired (RE g ρ n H) kvs ws
  | _, _, _, .nil, ⟨.nil⟩ => .nil
  | _, _, _, .cons r t, ⟨.cons e u⟩ => .cons (r.sm e) (rel_sm t ⟨u⟩)
theorem putA_rel {k : NestedKey} {a : A} {kv u : Value} (hk : RU g ρ n H (kA k) kv) (hu : RU g ρ n H a u) : ∀ {kvs : List (NestedKey × A)} {vs : Rw}, Paired (RE g ρ n H) kvs vs → Paired (RE g ρ n H) (putA k a kvs) (rput k kv u vs)
  | _, _, .nil => .cons ⟨rfl, hk, hu⟩ .nil
  | x :: kvs, y :: vs, .cons r t => by
    unfold putA rput
    cases e : NestedKey.beq x.1 k with
    | true =>
      have e := beq_iff.mp e
      rw [if_pos (r.1.symm.trans e)]
      exact .cons ⟨r.1, r.2.1, hu⟩ t
    | false =>
      have e' : ¬ y.1 = k := fun z => by rw [beq_iff.mpr (r.1.trans z)] at e; cases e
      rw [if_neg e']
      exact .cons r (putA_rel hk hu t)
theorem putA_mem {k : NestedKey} {a : A} : ∀ {kvs : List (NestedKey × A)} {x : NestedKey × A}, x ∈ putA k a kvs → x.1 = k ∨ ∃ y ∈ kvs, y.1 = x.1
  | [], x, m => by
    unfold putA at m
    exact .inl (by rw [List.mem_singleton.mp m])
  | y :: r, x, m => by
    unfold putA at m
    split at m
    · rcases List.mem_cons.mp m with e | m
      · subst e; exact .inr ⟨y, List.mem_cons_self .., rfl⟩
      · exact .inr ⟨x, List.mem_cons_of_mem _ m, rfl⟩
    · rcases List.mem_cons.mp m with e | m
      · subst e; exact .inr ⟨_, List.mem_cons_self .., rfl⟩
      · rcases putA_mem m with e | ⟨z, h1, h2⟩
        · exact .inl e
        · exact .inr ⟨z, List.mem_cons_of_mem _ h1, h2⟩
/-- the kind of the keys there is b, or may become it -/
def kindOk (b : Bool) : List (NestedKey × A) → Bool
  | [] => true
  | x :: _ => match kind x.1 with
    | some c => c == b
    | none => false
theorem kindOk_all {d : Addr} {kvs : List (NestedKey × A)} {vs : Rw} {b : Bool} (r : RD g ρ n H d kvs vs) (h : kindOk b kvs = true) : ∀ x ∈ kvs, kind x.1 = some b := by
  obtain ⟨c, hc⟩ := r.uni
  cases kvs with
  | nil => exact fun _ m => nomatch m
  | cons x kvs =>
    have h1 := (hc x (List.mem_cons_self ..)).1
    have h : (match kind x.1 with | some c => c == b | none => false) = true := h
    rw [h1] at h
    have h : c = b := by simpa using h
    subst h
    exact fun y m => (hc y m).1
theorem RD.put {d : Addr} {kvs : List (NestedKey × A)} {vs ws : Rw} {b : Bool} {k : NestedKey} {a : A} {kv u : Value} (r : RD g ρ n H d kvs vs) (hb : ∀ x ∈ kvs, kind x.1 = some b) (hkb : kind k = some b) (hd : k.depth ≤ 8)
    (hk : RU g ρ n H (kA k) kv) (hu : RU g ρ n H a u) (sm : Sm (rput k kv u vs) ws) (hl : kvs.length < sizeLine) : RD g ρ n H d (putA k a kvs) ws := by
  have rel := putA_rel hk hu r.rel
  refine ⟨r.sys, rel_sm rel sm, ⟨b, fun x m => ?_⟩, ?_, ?_⟩
  · obtain ⟨_, hc⟩ := r.uni
    rcases putA_mem m with e | ⟨y, h1, h2⟩
    · rw [e]; exact ⟨hkb, hd⟩
    · rw [← h2]; exact ⟨hb y h1, (hc y h1).2⟩
  · rw [rel_keys rel]
    exact rput_dup (by rw [← rel_keys r.rel]; exact r.dup)
  · rw [Paired.length rel]
    have := rput_len (k := k) (kv := kv) (u := u) (vs := vs)
    have h2 := Paired.length r.rel
    omega
end
end Ev

namespace Ev
open PySem PySem.Spec L2
open PyProof.Rows hiding St

/-! ### in, d[k], d.get(k), d[k] = v by values -/
def rDIn (w : World) (neg : Bool) : R2 := fun x y H Q => ∃ d fz b vs k, y = .ref d ∧ Dv w H d fz b vs ∧ kind k = some b ∧ k.depth ≤ 8 ∧ KeyV H k x ∧ Q (.bl (Bool.xor neg (rget k vs).isSome)) H
def rDIx (w : World) : R2 := fun x y H Q => ∃ d fz b vs k u v, x = .ref d ∧ Dv w H d fz b vs ∧ kind k = some b ∧ k.depth ≤ 8 ∧ KeyV H k y ∧ rget k vs = some u ∧ RelV v u ∧ Q v H
def rDGet (w : World) : V → List V → Hp → VK → Prop := fun x ys H Q => ∃ d fz b vs k y, x = .ref d ∧ Dv w H d fz b vs ∧ kind k = some b ∧ k.depth ≤ 8 ∧ KeyV H k y ∧
  ((ys = [y] ∧ ∃ v, RelV v ((rget k vs).getD .none) ∧ Q v H) ∨ ∃ z, ys = [y, z] ∧ ((rget k vs = none ∧ Q z H) ∨ ∃ u v, rget k vs = some u ∧ RelV v u ∧ Q v H))
def rDSet (w : World) : TSet := fun o i v H Q => ∃ d b vs k, o = .ref d ∧ Dv w H d false b vs ∧ kind k = some b ∧ k.depth ≤ 8 ∧ KeyV H k i ∧ ∀ (u z : Value) ws, RelV i u → RelV v z → Sm (rput k u z vs) ws → Q (upd H d (dO w d ws))
section
variable {X : Cx}
theorem or_din (hu : X.A.units + 9 < cLine) : OpR X (compareOp .In) (rDIn X.w false) := by
  intro pl s σ H x y v u Q I rx ry ⟨d, fz, b, vs, k, e, D, hk, hd, q, h⟩
  subst e; cases ry
  rw [Bool.false_xor] at h
  exact dv_in hu I D hk hd q rx fun s' I' => ⟨.bl _, H, I', rfl, h⟩
theorem or_dnotin (hu : X.A.units + 9 < cLine) : OpR X (compareOp .NotIn) (rDIn X.w true) := by
  intro pl s σ H x y v u Q I rx ry ⟨d, fz, b, vs, k, e, D, hk, hd, q, h⟩
  subst e; cases ry
  rw [Bool.true_xor] at h
  exact dv_notIn hu I D hk hd q rx fun s' I' => ⟨.bl _, H, I', rfl, h⟩
theorem raw_type {pl : List (Addr × Obj)} {σ : St} {H : Hp} {s : Shared} {d : Addr} {fz : Bool} {w : World} {vs : Rw} (I : Inv X pl σ H s) (r : RF H d (dO w d vs) fz) : s.TypeIs (.ref d) "dict" ∧ ∃ o, s.heap.get? d = some o ∧ o.dict = none := by
  obtain ⟨o, es, ep, ho, hx, _⟩ := draw_get I r
  exact ⟨⟨o, ho, hx.1⟩, o, ho, hx.2.1⟩
theorem ix_dct (hu : X.A.units + 9 < cLine) : IxR X (rDIx X.w) := by
  intro value slice pl s σ H x y v u Q I rx ry ⟨d, fz, b, vs, k, u', v', e, D, hk, hd, q, g, rv, h⟩ hs
  subst e; cases rx
  exact subscriptTail_builtinR (x := u') (raw_type I D.at_).1 PySem.F.slot_dict_getitem.lookup (dv_item hu I D hk hd q ry g fun s' I' => ⟨rfl, v', H, I', rv, h⟩) hs
theorem mt_dget (hu : X.A.units + 9 < cLine) : MtR X "dict.get" (rDGet X.w) := by
  intro pl s σ H x ys v us Q I rx rys ⟨d, fz, b, vs, k, y, e, D, hk, hd, q, h⟩
  subst e; cases rx
  rcases h with ⟨e, v, rv, h⟩ | ⟨z, e, h⟩
  · subst e
    cases rys with
    | cons ry t =>
      cases t
      exact dv_get1 hu I D hk hd q ry fun s' I' => ⟨v, H, I', rv, h⟩
  · subst e
    cases rys with
    | cons ry t =>
      cases t with
      | cons rz t =>
        cases t
        refine dv_get2 hu I D hk hd q ry fun s' I' => ?_
        rcases h with ⟨e, h⟩ | ⟨u, v, e, rv, h⟩
        · rw [e]; exact ⟨z, H, I', rz, h⟩
        · rw [e]; exact ⟨v, H, I', rv, h⟩
theorem set_dct (hu : X.A.units + 9 < cLine) : PSet X (rDSet X.w) := by
  intro pl s σ H o i v ov iv u Q I ro ri rv ⟨d, b, vs, k, e, D, hk, hd, q, h⟩
  subst e; cases ro
  exact dv_set hu I D hk hd q ri fun ws s' sm I' => ⟨_, I', h iv u ws ri rv sm⟩
theorem set_or {t t' : TSet} (h : PSet X t) (h' : PSet X t') : PSet X (fun o i v H Q => t o i v H Q ∨ t' o i v H Q) := by
  intro pl s σ H o i v ov iv u Q I ro ri rv q
  rcases q with q | q
  · exact h pl s σ H o i v ov iv u Q I ro ri rv q
  · exact h' pl s σ H o i v ov iv u Q I ro ri rv q
/-- len(d) -/
def rDLen (w : World) : List V → Hp → VK → Prop := fun xs H Q => ∃ d fz b vs, xs = [.ref d] ∧ Dv w H d fz b vs ∧ Q (.int vs.length) H
theorem cr_dlen : CallR X (.builtin "len") (rDLen X.w) := by
  intro pl s σ H xs us Q I r ⟨d, fz, b, vs, e, D, h⟩
  subst e
  cases r with
  | cons r t =>
    cases t; cases r
    obtain ⟨es, ep, hr, he⟩ := draw_raw (draw_get I D.at_)
    have hz : es.size = vs.length := by rw [← Array.length_toList, he, List.length_map]
    have hl := D.len
    refine PyProof.Rows.call_len_slot (n := es.size) hr.typeIs PySem.F.slot_dict_len (fun Q' hq => call_len_raw D.sys hr hq) (by omega) (by rw [sizeLine_eq] at hl; omega) ?_
    rw [hz]
    exact ⟨.int vs.length, H, I.tok _, ⟨_, rfl⟩, h⟩
end
/-- a method of a dict -/
def tDM (w : World) (r : V → List V → Hp → VK → Prop) (to : TE) (t : TA) : TE := fun σ H Q => to σ H fun x H1 => (∃ d fz vs, x = .ref d ∧ RF H1 d (dO w d vs) fz) ∧ t σ H1 fun xs H2 => r x xs H2 Q
section
variable {X : Cx} {o e : Expr} {es : List Expr} {to : TE} {t : TA} {apos cpos : Pos} {name : Str} {id : String} {r : V → List V → Hp → VK → Prop}
theorem pe_dmet (slot : Slot "dict" name id) (hty : typeOf (.builtin id) = pure (.type "method_descriptor")) (hm : MtR X id r) (ho : PE X o to) (ha : PA X (e :: es) t)
    (nb : attributeBase o name X.env (eval o X.env) = eval o X.env := by rfl)
    (nf : ((backTo cpos (starEach (e :: es) X.env)).all (fun x => !x.1) && (backToKw cpos (keywordEach [] X.env)).all (fun x => x.1.isSome) && decide ((e :: es).length + ([] : List Keyword).length + (if ([] : List Keyword).isEmpty then 0 else 1) < 30)) = true := by rfl)
    (nl : (apos.endLine == cpos.line) = true := by rfl) (ns : starEach (e :: es) X.env = (false, eval e X.env) :: starEach es X.env := by rfl) (np : (backTo cpos (starEach es X.env)).any (·.1) = false := by rfl) :
    PE X (.Call (.Attribute o name apos) (e :: es) [] cpos) (tDM X.w r to t) := by
  refine ⟨fun pl s σ H Q I h => ?_⟩
  refine wpAny_Call_method_late nb nf nl rfl (thn (ho.run pl s σ H _ I h) fun v s1 ⟨x, H1, I1, r1, ⟨d, fz, vs, ex, hd⟩, q1⟩ => ?_)
  subst ex
  cases r1
  obtain ⟨t1, ob, t2, t3⟩ := raw_type I1 hd
  refine ⟨"dict", id, PySem.F.plainAttrs_dict, slot, hty, t1, fun a z => ?_, ?_⟩
  · cases z; exact ⟨ob, t2, t3⟩
  · have hA := ha.run cpos pl s1 σ H1 _ I1 q1
    rw [ns] at hA ⊢
    refine Calls.callWith_builtin (by show (false || (backTo cpos (starEach es X.env)).any (·.1)) = false; rw [np] <;> rfl) (Calls.evalArgs_plain ?_)
    exact thn hA fun us s2 ⟨vs, H2, I2, r2, q2⟩ => hm pl s2 σ H2 (.ref d) vs _ us Q I2 rfl r2 q2
end

/-! ### .. abstractly -/
def isD (v : A) (h : Ah) : Bool := match v with
  | .ref k => (match h.get k with
    | some (.dct _ _) => true
    | _ => false)
  | _ => false
/-- the dict v and the key a: its kind, and what stands there -/
def dkey (v a : A) (h : Ah) : Option (NestedKey × List (NestedKey × A)) := match v with
  | .ref k => (match h.get k with
    | some (.dct _ kvs) => (match toK 8 a with
      | some key => (match kind key with
        | some b => (match kindOk b kvs with
          | true => some (key, kvs)
          | false => none)
        | none => none)
      | none => none)
    | _ => none)
  | _ => none
section
variable {g : Gl} {ρ : Nat → Addr} {H : Hp} {h : Ah}
theorem RH.dct (r : RH g ρ H h) {k : Nat} {fz : Bool} {kvs : List (NestedKey × A)} (e : h.get k = some (.dct fz kvs)) : ∃ vs, RD g ρ h.n H (ρ k) kvs vs ∧ RF H (ρ k) (dO g.w (ρ k) vs) fz := r.obj k _ e
theorem dkey_ok {v a : A} {x y : V} {key : NestedKey} {kvs : List (NestedKey × A)} (r : RH g ρ H h) (rx : RV g ρ h.n H v x) (ry : RV g ρ h.n H a y) (e : dkey v a h = some (key, kvs)) :
    ∃ k fz b vs, v = .ref k ∧ k < h.n ∧ x = .ref (ρ k) ∧ h.get k = some (.dct fz kvs) ∧ RD g ρ h.n H (ρ k) kvs vs ∧ Dv g.w H (ρ k) fz b vs ∧ (∀ x ∈ kvs, kind x.1 = some b) ∧ kind key = some b ∧ key.depth ≤ 8 ∧ KeyV H key y := by
  unfold dkey at e
  split at e
  · split at e
    · rename_i k fz kvs' hk
      split at e
      · rename_i key' h1
        split at e
        · rename_i b h2
          split at e
          · rename_i h3
            cases e
            obtain ⟨hlt, rfl⟩ := rx.ref'
            obtain ⟨vs, d1, d2⟩ := r.dct hk
            obtain ⟨h4, h5⟩ := toK_ok _ _ _ h1
            have h6 := kindOk_all d1 h3
            exact ⟨_, fz, b, vs, rfl, hlt, rfl, hk, d1, d1.dv d2 h6, h6, h2, h5, keyV_of (g := g) (ρ := ρ) (n := h.n) (by rw [h4]; exact ry)⟩
          · cases e
        · cases e
      · cases e
    · cases e
  · cases e
theorem lk_some {k : NestedKey} {kvs : List (NestedKey × A)} {vs : Rw} {n : Nat} {p : Addr} {a : A} (r : RD g ρ n H p kvs vs) (e : getK k kvs = some a) : ∃ u v, rget k vs = some u ∧ RelV v u ∧ RV g ρ n H a v := by
  have := getK_rel (k := k) r.rel
  rw [e] at this
  obtain ⟨u, h1, v, h2, h3⟩ := this
  exact ⟨u, v, h1, h2, h3⟩
theorem lk_none {k : NestedKey} {kvs : List (NestedKey × A)} {vs : Rw} {n : Nat} {p : Addr} (r : RD g ρ n H p kvs vs) (e : getK k kvs = none) : rget k vs = none := by
  have := getK_rel (k := k) r.rel
  rw [e] at this
  exact this
theorem lk_is {k : NestedKey} {kvs : List (NestedKey × A)} {vs : Rw} {n : Nat} {p : Addr} (r : RD g ρ n H p kvs vs) : (rget k vs).isSome = (getK k kvs).isSome := by
  cases e : getK k kvs with
  | some a => obtain ⟨u, _, h, _⟩ := lk_some r e; rw [h]; rfl
  | none => rw [lk_none r e]; rfl
end
def cInD (neg : Bool) : C2 := fun v w h => match isD w h with
  | true => (match dkey w v h with
    | some (key, kvs) => .ok (Bool.xor neg (getK key kvs).isSome) h
    | none => .no)
  | false => cIn neg v w h
theorem co_ind {g : Gl} {neg : Bool} {r : R2} (ok : CmpOk g r (cIn neg)) : CmpOk g (fun x y H Q => r x y H Q ∨ rDIn g.w neg x y H Q) (cInD neg) := by
  intro W ρ ρc n H Hc h σ Q v w x y e rh rx ry p
  unfold cInD at p
  split at p
  · split at p
    · rename_i key kvs hk
      obtain ⟨k, fz, b, vs, _, _, rfl, _, d1, D, _, h1, h2, h3⟩ := dkey_ok rh ry rx hk
      refine .inr ⟨_, fz, b, vs, key, rfl, D, h1, h2, h3, ?_⟩
      rw [lk_is d1]
      exact p.now e rh
    · exact p.elim
  · exact .inl (ok e rh rx ry p)
def gIxD : G2 := fun v w h => match isD v h with
  | true => (match dkey v w h with
    | some (key, kvs) => (match getK key kvs with
      | some a => .ok a h
      | none => .no)
    | none => .no)
  | false => gIx v w h
theorem bo_ixd {g : Gl} {K : PySem.W.Frag} : BinOk g (fun x y H Q => rIxA K x y H Q ∨ rDIx g.w x y H Q) gIxD := by
  intro W ρ ρc n H Hc h σ Q v w x y e rh rx ry p
  unfold gIxD at p
  split at p
  · split at p
    · rename_i key kvs hk
      split at p
      · rename_i a ha
        obtain ⟨k, fz, b, vs, _, _, rfl, _, d1, D, _, h1, h2, h3⟩ := dkey_ok rh rx ry hk
        obtain ⟨u, z, h4, h5, h6⟩ := lk_some d1 ha
        exact .inr ⟨_, fz, b, vs, key, u, z, rfl, D, h1, h2, h3, h4, h5, p.now e rh _ h6⟩
      · exact p.elim
    · exact p.elim
  · exact .inl (bo_ix e rh rx ry p)
/-- d.get(..) -/
def mGet : GM := fun v vs h => match vs with
  | [a] => (match dkey v a h with
    | some (key, kvs) => (match getK key kvs with
      | some x => .ok x h
      | none => .ok .non h)
    | none => .no)
  | [a, z] => (match dkey v a h with
    | some (key, kvs) => (match getK key kvs with
      | some x => .ok x h
      | none => .ok z h)
    | none => .no)
  | _ => .no
theorem mo_get {g : Gl} : MetOk g (rDGet g.w) mGet := by
  intro W ρ ρc n H Hc h σ Q v x vs xs e rh rx rxs p
  unfold mGet at p
  split at p
  · obtain ⟨y, rfl, ry⟩ := rxs.one
    split at p
    · rename_i key kvs hk
      obtain ⟨k, fz, b, us, _, _, rfl, _, d1, D, _, h1, h2, h3⟩ := dkey_ok rh rx ry hk
      refine ⟨_, fz, b, us, key, y, rfl, D, h1, h2, h3, .inl ⟨rfl, ?_⟩⟩
      split at p
      · rename_i a ha
        obtain ⟨u, z, h4, h5, h6⟩ := lk_some d1 ha
        rw [h4]
        exact ⟨z, h5, p.now e rh _ h6⟩
      · rename_i ha
        rw [lk_none d1 ha]
        exact ⟨.non, rfl, p.now e rh _ rv_non⟩
    · exact p.elim
  · obtain ⟨y, z, rfl, ry, rz⟩ := rxs.two
    split at p
    · rename_i key kvs hk
      obtain ⟨k, fz, b, us, _, _, rfl, _, d1, D, _, h1, h2, h3⟩ := dkey_ok rh rx ry hk
      refine ⟨_, fz, b, us, key, y, rfl, D, h1, h2, h3, .inr ⟨z, rfl, ?_⟩⟩
      split at p
      · rename_i a ha
        obtain ⟨u, z', h4, h5, h6⟩ := lk_some d1 ha
        exact .inr ⟨u, z', h4, h5, p.now e rh _ h6⟩
      · rename_i ha
        exact .inl ⟨lk_none d1 ha, p.now e rh _ rz⟩
    · exact p.elim
  · exact p.elim
def fMetD (mop : GM) (fo : FE) (fs : FA) : FE := fun s h => (fo s h).bind fun v h1 => match isD v h1 with
  | true => (fs s h1).bind fun vs h2 => mop v vs h2
  | false => .no
theorem isD_ok {g : Gl} {ρ : Nat → Addr} {H : Hp} {h : Ah} {v : A} {x : V} (r : RH g ρ H h) (rx : RV g ρ h.n H v x) (q : isD v h = true) : ∃ d fz vs, x = .ref d ∧ RF H d (dO g.w d vs) fz := by
  unfold isD at q
  split at q
  · split at q
    · rename_i fz kvs hk
      obtain ⟨_, rfl⟩ := rx.ref'
      obtain ⟨vs, _, h2⟩ := r.dct hk
      exact ⟨_, fz, vs, rfl, h2⟩
    · cases q
  · cases q
section
variable {X : Cx} {g : Gl} {W : WX} {pos : Pos}
theorem ee_dmet {name : Str} {id : String} {o e : Expr} {es : List Expr} {apos cpos : Pos} {r : V → List V → Hp → VK → Prop} {mop : GM} {fo : FE} {fs : FA} (hw : X.w = g.w) (slot : Slot "dict" name id) (hty : typeOf (.builtin id) = pure (.type "method_descriptor")) (hm : MtR X id r) (ok : MetOk g r mop) (ho : PE X o (rdE g W fo)) (ha : PA X (e :: es) (rdA g W fs))
    (nb : attributeBase o name X.env (eval o X.env) = eval o X.env := by rfl)
    (nf : ((backTo cpos (starEach (e :: es) X.env)).all (fun x => !x.1) && (backToKw cpos (keywordEach [] X.env)).all (fun x => x.1.isSome) && decide ((e :: es).length + ([] : List Keyword).length + (if ([] : List Keyword).isEmpty then 0 else 1) < 30)) = true := by rfl)
    (nl : (apos.endLine == cpos.line) = true := by rfl) (ns : starEach (e :: es) X.env = (false, eval e X.env) :: starEach es X.env := by rfl) (np : (backTo cpos (starEach es X.env)).any (·.1) = false := by rfl) :
    PE X (.Call (.Attribute o name apos) (e :: es) [] cpos) (rdE g W (fMetD mop fo fs)) := (pe_dmet slot hty hm ho ha nb nf nl ns np).imp fun σ H Q ⟨ρ, s, h, rs, rh, p⟩ => by
  refine rdE.seq (σ' := σ) rs rh .refl p fun v x ρ1 h1 H1 e1 r1 rx p1 => ?_
  split at p1
  · rename_i hl
    exact ⟨by rw [hw]; exact isD_ok r1 rx hl, rdA.seq (rs.mono e1) r1 e1 p1 fun vs xs ρ2 h2 H2 e2 r2 rxs p2 => ok (e1.trans e2) r2 (rx.mono e2) rxs p2⟩
  · exact p1.elim
theorem ee_ixd {a b : Expr} {fa fb : FE} (hw : X.w = g.w) (hu : X.A.units + 9 < cLine) (ha : PE X a (rdE g W fa)) (hb : PE X b (rdE g W fb)) (hs : PlainIx b) : PE X (.Subscript a b pos) (rdE g W (f2 gIxD fa fb)) :=
  (pe_ix (IxR.or ir_ix (ix_dct hu)) ha hb hs).imp fun _ _ _ q => rd2 (by rw [hw]; exact bo_ixd) q
theorem or_ing (hu : X.A.units + 65 < cLine) : OpR X (compareOp .In) (fun x y H Q => rInA X.K x y H Q ∨ rDIn X.w false x y H Q) := (or_in hu).or (or_din (by omega))
theorem or_noting (hu : X.A.units + 65 < cLine) : OpR X (compareOp .NotIn) (fun x y H Q => rNotInA X.K x y H Q ∨ rDIn X.w true x y H Q) := (or_notin hu).or (or_dnotin (by omega))
theorem co_ing {K : PySem.W.Frag} {w : World} (hw : w = g.w) : CmpOk g (fun x y H Q => rInA K x y H Q ∨ rDIn w false x y H Q) (cInD false) := by rw [hw]; exact co_ind co_in
theorem co_noting {K : PySem.W.Frag} {w : World} (hw : w = g.w) : CmpOk g (fun x y H Q => rNotInA K x y H Q ∨ rDIn w true x y H Q) (cInD true) := by rw [hw]; exact co_ind co_notin
theorem lenLtD {kvs : List (NestedKey × A)} (h : Nat.blt kvs.length 16777216 = true) : kvs.length < sizeLine := by
  rw [sizeLine_eq]
  exact Nat.blt_eq.mp h
/-- x[i] = v, x a list or a dict -/
def fSetD (f fo fi : FE) : FS := fun s h => (f s h).toS s fun v h1 => (fo s h1).toS s fun o h2 => (fi s h2).toS s fun i h3 => match isD o h3 with
  | true => (match o with
    | .ref k => (match h3.get k with
      | some (.dct false kvs) => (match dkey o i h3 with
        | some (key, kvs) => (match Nat.blt kvs.length 16777216 with
          | true => .nx s (h3.set k (.dct false (putA key v kvs)))
          | false => .no)
        | none => .no)
      | _ => .no)
    | _ => .no)
  | false => (match o, i with
    | .ref k, .int j => (match h3.get k with
      | some (.lst xs) => (match ixN xs.length j with
        | some m => .nx s (h3.set k (.lst (xs.set m v)))
        | none => .no)
      | _ => .no)
    | _, _ => .no)
theorem kv_up {H : Hp} {d : Addr} {u u' : HO} {k : NestedKey} {v : V} (hd : H d = some u) (nt : ∀ xs, u ≠ .tup xs) (q : KeyV H k v) : KeyV (upd H d u') k v := q.mono fun a xs e => by
  have : a ≠ d := fun z => by subst z; rw [hd] at e; cases e; exact nt _ rfl
  rw [upd_ne this]; exact e
theorem dput_ok {ρ : Nat → Addr} {h : Ah} {H : Hp} {k : Nat} {b : Bool} {kvs : List (NestedKey × A)} {vs ws : Rw} {key : NestedKey} {v : A} {x y : V} {u z : Value} (rh : RH g ρ H h) (hk : h.get k = some (.dct false kvs)) (d1 : RD g ρ h.n H (ρ k) kvs vs) (D : Dv g.w H (ρ k) false b vs) (hb : ∀ x ∈ kvs, kind x.1 = some b) (hkb : kind key = some b) (hd : key.depth ≤ 8)
    (q : KeyV H key y) (ru : RelV y u) (rx : RV g ρ h.n H v x) (rz : RelV x z) (sm : Sm (rput key u z vs) ws) (hl : kvs.length < sizeLine) :
    Ext ρ h.n H ρ h.n (upd H (ρ k) (dO g.w (ρ k) ws)) ∧ RH g ρ (upd H (ρ k) (dO g.w (ρ k) ws)) (h.set k (.dct false (putA key v kvs))) := by
  have hlt := rh.lt hk
  have e0 : H (ρ k) = some (dO g.w (ρ k) vs) := D.at_
  have ex : Ext ρ h.n H ρ h.n (upd H (ρ k) (dO g.w (ρ k) ws)) := ext_wr rh hlt e0 (fun _ q => nomatch q) fun _ _ q => nomatch q
  refine ⟨ex, rh.wr hlt e0 (fun _ q => nomatch q) (fun _ _ r => r.mono ex) ?_⟩
  have d2 : RD g ρ h.n (upd H (ρ k) (dO g.w (ρ k) ws)) (ρ k) kvs vs := d1.imp fun _ _ r => r.mono ex
  exact ⟨ws, d2.put hb hkb hd ⟨y, ru, (keyV_to (g := g) (ρ := ρ) (n := h.n) q).mono ex⟩ ⟨x, rz, rx.mono ex⟩ sm hl, upd_same⟩
theorem es_setd {o i e : Expr} {f fo fi : FE} {p' : Pos} (hX : X.w = g.w) (hu : X.A.units + 9 < cLine) (he : PE X e (rdE g W f)) (ho : PE X o (rdE g W fo)) (hi : PE X i (rdE g W fi)) (hs : swapsWithSole [.Subscript o i p'] e pos.line X.env = pure false := by rfl) (hw : swappedStores [.Subscript o i p'] e X.env = pure none := by rfl)
    (h1 : (assignEach [.Subscript o i p'] X.env).map (·.2) = [assign (.Subscript o i p') X.env] := by rfl)
    (ha : ∀ v, assign (.Subscript o i p') X.env v = (do let ov ← holding [v] (eval o X.env); let iv ← holding [v, ov] (eval i X.env); standAt p'; holding [v, ov, iv] (setItem ov iv v); release [v, ov, iv] []) := by intro _; rfl) : PS X (.Assign [.Subscript o i p'] e pos) (rdS g W (fSetD f fo fi)) :=
  (ps_asg he (pg_sub ho hi (set_or set_list (set_dct hu)) ha) hs hw h1).imp fun D σ H ⟨ρ, s, h, rs, r, p⟩ => rdS.e rs r .refl p fun v x ρ1 h1 H1 e1 r1 rx p1 =>
    rdS.e (rs.mono e1) r1 e1 p1 fun ov o' ρ2 h2 H2 e2 r2 ro p2 => rdS.e ((rs.mono e1).mono e2) r2 (e1.trans e2) p2 fun iv i' ρ3 h3 H3 e3 r3 ri p3 => by
      have ee := (e1.trans e2).trans e3
      have rs3 := ((rs.mono e1).mono e2).mono e3
      have rx3 := (rx.mono e2).mono e3
      have ro3 := ro.mono e3
      split at p3
      · split at p3
        · split at p3
          · rename_i k kvs hk
            split at p3
            · rename_i key kvs' hdk
              split at p3
              · rename_i hl
                obtain ⟨k', fz, b, vs, ek, hlt, rfl, hk', d1, D1, hb, h1, h2, h3'⟩ := dkey_ok r3 ro3 ri hdk
                cases ek
                rw [hk] at hk'
                cases hk'
                refine .inr ⟨_, b, vs, key, rfl, by rw [hX]; exact D1, h1, h2, h3', fun u z ws ru rz sm => ?_⟩
                obtain ⟨ex, rh⟩ := dput_ok r3 hk d1 D1 hb h1 h2 h3' ru rx3 rz sm (lenLtD hl)
                rw [hX]
                exact p3 ρ3 _ σ (ee.trans ex) rh (rs3.mono ex)
              · exact p3.elim
            · exact p3.elim
          · exact p3.elim
        · exact p3.elim
      · split at p3
        · split at p3
          · rename_i xs hk
            split at p3
            · rename_i m hm
              obtain ⟨hlt, rfl⟩ := ro3.ref'
              cases ri.int'
              obtain ⟨ys, hy, rys⟩ := r3.lst hk
              have eu := ext_upd (ys' := ys.set m x) r3 hlt hy
              exact .inl ⟨_, ys, _, m, rfl, rfl, hy, by rw [← rys.length]; exact hm, p3 ρ3 _ σ (ee.trans eu) (r3.upd hlt hy (rys.set m rx3)) (rs3.mono eu)⟩
            · exact p3.elim
          · exact p3.elim
        · exact p3.elim
end
end Ev

namespace Ev
open PySem PySem.Spec L2
open PyProof.Rows hiding St
/-- own short names for two rules -/
theorem bnd {α β : Type} {M : Model} {A : Around} {E : Value → Shared → Prop} {s : Shared} {m : Sem α} {f : α → Sem β} {Q : β → Shared → Prop} (h : wpAny M A m (fun a s' => wpAny M A (f a) Q E s') E s) : wpAny M A (m >>= f) Q E s := wpAny_bind h
theorem pur {α : Type} {M : Model} {A : Around} {E : Value → Shared → Prop} {s : Shared} {a : α} {Q : α → Shared → Prop} (h : Q a s) : wpAny M A (pure a) Q E s := wpAny_pure h

/-! ### many stores -/
def rputs : Rw → Rw → Rw
  | [], vs => vs
  | x :: us, vs => rputs us (rput x.1 x.2.1 x.2.2 vs)
theorem rput_kinds {b : Bool} {k : NestedKey} {kv u : Value} {vs : Rw} (hk : kind k = some b) (h : ∀ x ∈ vs, kind x.1 = some b) : ∀ x ∈ rput k kv u vs, kind x.1 = some b := fun x m => by
  rcases rput_mem m with e | ⟨v, h1, h2, _⟩
  · subst e; exact hk
  · rw [← h2]; exact h v h1
theorem puts_leaf : ∀ {us vs : Rw}, (∀ x ∈ us, kind x.1 = some false) → (∀ x ∈ vs, kind x.1 = some false) → (vs.map (·.1)).Nodup → merged (vs.map pK) (us.map pK) = (rputs us vs).map pK
  | [], vs, _, _, _ => rfl
  | x :: us, vs, h1, h2, h3 => by
    have hk := h1 x (List.mem_cons_self ..)
    show merged (stored (vs.map pK) (lk x.1) x.2.2) (us.map pK) = _
    rw [stored_leaf (kv := x.2.1) hk h2 h3]
    exact puts_leaf (fun y m => h1 y (List.mem_cons_of_mem _ m)) (rput_kinds hk h2) (rput_dup h3)
theorem puts_nest : ∀ {us vs : Rw}, (vs.map (·.1)).Nodup → storedAllH (vs.map pN) (us.map pN) = (rputs us vs).map pN
  | [], vs, _ => rfl
  | x :: us, vs, h3 => by
    show storedAllH (storedH (vs.map pN) x.1 (ra x.2.1) x.2.2) (us.map pN) = _
    rw [stored_nest (kv := x.2.1) h3]
    exact puts_nest (rput_dup h3)
theorem rputs_mem : ∀ {us vs : Rw} {x : NestedKey × Value × Value}, x ∈ rputs us vs → ∃ y, (y ∈ us ∨ y ∈ vs) ∧ y.1 = x.1 ∧ y.2.1 = x.2.1
  | [], vs, x, m => ⟨x, .inr m, rfl, rfl⟩
  | y :: us, vs, x, m => by
    obtain ⟨z, hz, e1, e2⟩ := rputs_mem (us := us) m
    rcases hz with hz | hz
    · exact ⟨z, .inl (List.mem_cons_of_mem _ hz), e1, e2⟩
    · rcases rput_mem hz with e | ⟨v, h1, h2, h3⟩
      · subst e; exact ⟨y, .inl (List.mem_cons_self ..), e1, e2⟩
      · exact ⟨v, .inr h1, h2.trans e1, h3.trans e2⟩
theorem rputs_dup : ∀ {us vs : Rw}, (vs.map (·.1)).Nodup → ((rputs us vs).map (·.1)).Nodup
  | [], _, h => h
  | x :: us, vs, h => rputs_dup (us := us) (rput_dup h)
section
variable {P : Program} {w : World} {h : Heap} {d : Addr} {vs : Rw}
theorem raw_leaf (dd : h.DictOf (mixKind P w) d (vs.map pK)) (hk : ∀ x ∈ vs, kind x.1 = some false) : ∃ ws, Sm vs ws ∧ DRaw w d ws h := by
  obtain ⟨o, es, ep, ho, hx, he, hko, hp, hn⟩ := dd
  obtain ⟨ws, a1, a2, a3⟩ := raw_of_pairs (H := fun _ => none) hp fun e m => hko e (Array.mem_toList_iff.mp m)
  refine ⟨ws, sm_of_map a2.symm hk a3, o, es, ep, ho, hx, he, a1, ?_⟩
  rw [← a2, List.map_map] at hn
  refine List.Pairwise.of_map (S := fun a c => a ≠ c) lk (fun a c hne e => hne (congrArg lk e)) ?_
  rw [List.map_map]; exact hn
theorem raw_nest (dd : h.DictOfH (nestedKind P w) d (vs.map pN)) (hr : ∀ x ∈ vs, x.2.1 = .ref (ra x.2.1)) : DRaw w d vs h := by
  obtain ⟨o, es, ep, ho, hx, he, a1, _, hn⟩ := dd
  refine ⟨o, es, ep, ho, hx, he, ?_, ?_⟩
  · rw [a1, List.map_map]
    refine List.map_congr_left fun x m => ?_
    show (⟨x.1.hash w, .ref (ra x.2.1), x.2.2⟩ : DictEntry) = ⟨x.1.hash w, x.2.1, x.2.2⟩
    rw [← hr x m]
  · rw [List.map_map] at hn
    exact hn
end

/-! ### dict(a list of pairs) -/
def RP (p : NestedKey × V × V) (u : NestedKey × Value × Value) : Prop := p.1 = u.1 ∧ RelV p.2.1 u.2.1 ∧ RelV p.2.2 u.2.2
def PrV (H : Hp) (b : Bool) (y : V) (p : NestedKey × V × V) : Prop := (∃ t, y = .ref t ∧ H t = some (.tup [p.2.1, p.2.2])) ∧ kind p.1 = some b ∧ p.1.depth ≤ 8 ∧ KeyV H p.1 p.2.1
section
variable {X : Cx} {pl : List (Addr × Obj)} {σ : St} {H : Hp} {s : Shared} {b : Bool} {A : Around} {E : Value → Shared → Prop}
theorem prs_raw (I : Inv X pl σ H s) : ∀ {ys : List V} {ps : List (NestedKey × V × V)} {im : List Value}, Paired (PrV H b) ys ps → Vals ys im →
    ∃ us : Rw, Paired RP ps us ∧ im.length = us.length ∧ (∀ (j : Nat) (x : NestedKey × Value × Value), us[j]? = some x → ∃ t, im[j]? = some (.ref t) ∧ s.heap.IsTuple t #[x.2.1, x.2.2]) ∧ ∀ x ∈ us, kind x.1 = some b ∧ x.1.depth ≤ 8 ∧ ∃ v, RelV v x.2.1 ∧ KeyV H x.1 v
  | _, _, _, .nil, .nil => ⟨[], .nil, rfl, fun j x e => by simp at e, fun _ m => nomatch m⟩
  | _, p :: ps, u :: im, .cons ⟨⟨t, e, ht⟩, hk, hd, q⟩ r, .cons r1 r2 => by
    obtain ⟨us, a1, a2, a3, a4⟩ := prs_raw I r r2
    subst e
    obtain ⟨its, rv, it, _⟩ := I.tuple (.of ht)
    cases rv with
    | cons rk rv =>
      cases rv with
      | cons rv z =>
        cases z
        rename_i ku vu
        cases (show u = Value.ref t from r1)
        refine ⟨(p.1, ku, vu) :: us, .cons ⟨rfl, rk, rv⟩ a1, by simp only [List.length_cons, a2], fun j x ex => ?_, fun x m => ?_⟩
        · cases j with
          | zero =>
            rw [List.getElem?_cons_zero] at ex
            cases ex
            exact ⟨t, rfl, it⟩
          | succ j =>
            rw [List.getElem?_cons_succ] at ex
            obtain ⟨t', h1, h2⟩ := a3 j x ex
            exact ⟨t', by rw [List.getElem?_cons_succ]; exact h1, h2⟩
        · rcases List.mem_cons.mp m with e | m
          · subst e; exact ⟨hk, hd, _, rk, q⟩
          · exact a4 x m
def tsAt (im : List Value) (j : Nat) : Addr := match im[j]? with
  | some (.ref t) => t
  | _ => 0
theorem dict_new {Q : Value → Shared → Prop} {h' : Heap} {tk : Nat} {ws : Rw} (I : Inv X pl σ H s) (k : ∀ c o, s.heap.get? c = some o → h'.get? c = some o) (new : DRaw X.w s.heap.objs.size ws h') : Inv X pl σ (upd H s.heap.objs.size (dO X.w s.heap.objs.size ws)) { s with heap := h', toks := tk } :=
  I.laid k (Nat.le_refl _) (draw_new new)
theorem dv_pairs {l : Addr} {ys : List V} {ps : List (NestedKey × V × V)} {Q : Value → Shared → Prop} (hh : A.handled = none) (hu : A.units + 12 < cLine) (I : Inv X pl σ H s) (sq : SqL X.K H l ys) (rp : Paired (PrV H b) ys ps) (hz : ps.length ≤ sizeLine)
    (h : ∀ us ws s', Paired RP ps us → Sm (rputs us []) ws → Inv X pl σ (upd H s.heap.objs.size (dO X.w s.heap.objs.size ws)) s' → Q (.ref s.heap.objs.size) s') : wpAny (model X.prog X.w) A (call (.type "dict") [.ref l]) Q E s := by
  obtain ⟨im, vr, pn, _⟩ := I.list sq
  obtain ⟨us, a1, a2, a3, a4⟩ := prs_raw I rp vr
  have hl : us.length ≤ sizeLine := by rw [← Paired.length a1]; exact hz
  have hn : (us.map (·.2)).length = us.length := List.length_map ..
  have ok : PlainSeq "list" s.heap l im.toArray ∧ PairItems s.heap im.toArray (tsAt im) (us.map (·.2)) := by
    refine ⟨pn, by rw [List.size_toArray, hn]; exact a2, fun j k v e => ?_⟩
    rw [List.getElem?_map] at e
    obtain ⟨x, hx, ex⟩ := Option.map_eq_some_iff.mp e; obtain ⟨t, h1, h2⟩ := a3 j x hx
    have ht : tsAt im j = t := by unfold tsAt; rw [h1]
    rw [ht]
    refine ⟨by rw [List.getElem?_toArray]; exact h1, .inl ?_⟩
    rw [ex] at h2
    exact h2
  have rel : ∀ (i : Nat) (k v : Value), PairRel (us.map (·.2)) i k v → ∃ x, us[i]? = some x ∧ x.2 = (k, v) := fun i k v e => by
    have e : (us.map (·.2))[i]? = some (k, v) := e
    rw [List.getElem?_map] at e
    exact Option.map_eq_some_iff.mp e
  cases b with
  | false =>
    refine call_dict_pairs (knd := mixKind X.prog X.w) (kvs := us.map pK) (PairArg.list l im.toArray (tsAt im) (us.map (·.2))) hh ok ⟨by rw [List.length_map, hn], fun i k v e => ?_⟩ (by rw [hn]; exact hl) fun h' tk dd hk => ?_
    · obtain ⟨x, hx, ex⟩ := rel i k v e
      obtain ⟨h1, _, z, h2, h3⟩ := a4 x (List.mem_of_getElem? hx)
      rw [ex] at h2
      refine ⟨lk x.1, by rw [List.getElem?_map, hx]; show some (lk x.1, x.2.2) = _; rw [ex], is_lk h1 h3 h2⟩
    · have e := puts_leaf (us := us) (vs := []) (fun x m => (a4 x m).1) (fun _ m => nomatch m) List.nodup_nil
      rw [show merged [] (us.map pK) = (rputs us []).map pK from e] at dd
      obtain ⟨ws, sm, dr⟩ := raw_leaf dd fun x m => by
        obtain ⟨y, hy, e1, _⟩ := rputs_mem m
        rcases hy with hy | hy
        · rw [← e1]; exact (a4 y hy).1
        · cases hy
      exact h us ws _ a1 sm (dict_new (Q := Q) I (fun c o e => hk c o (fun m => nomatch m) e) dr)
  | true =>
    have hr : ∀ x ∈ us, x.2.1 = .ref (ra x.2.1) := fun x m => by
      obtain ⟨h1, _, z, h2, h3⟩ := a4 x m
      exact ref_of h1 h3 h2
    have room : (nestedKind X.prog X.w).room A.in1.in1 := by
      show A.units + 1 + 1 + 8 < cLine
      omega
    refine call_dict_pairsH (knd := nestedKind X.prog X.w) (ps := us.map pN) (PairArg.list l im.toArray (tsAt im) (us.map (·.2))) hh room ok ⟨by rw [List.length_map, hn], fun i k v e => ?_⟩ (fun h1 hk1 x m => ?_) (by rw [hn]; exact hl) fun h' tk dd hk => ?_
    · obtain ⟨x, hx, ex⟩ := rel i k v e
      have h2 := hr x (List.mem_of_getElem? hx)
      refine ⟨x.1, ra x.2.1, by rw [List.getElem?_map, hx]; show some (x.1, ra x.2.1, x.2.2) = _; rw [ex], ?_⟩
      rw [ex] at h2
      rw [ex]; exact h2
    · obtain ⟨y, my, rfl⟩ := List.mem_map.mp m
      obtain ⟨h2, h3, z, h4, h5⟩ := a4 y my
      refine nestedKind_stays.stays (fun c o vs n e _ => hk1 c o (Nat.ne_of_lt (Heap.lt_size e)) (fun m => nomatch m) e) (?_ : (nestedKind X.prog X.w).is s.heap y.1 (ra y.2.1))
      refine ⟨?_, h3⟩
      rw [← hr y my]
      exact nis I h5 h4
    · have e := puts_nest (us := us) (vs := []) List.nodup_nil
      rw [show storedAllH [] (us.map pN) = (rputs us []).map pN from e] at dd
      have dr := raw_nest dd fun x m => by
        obtain ⟨y, hy, e1, e2⟩ := rputs_mem m
        rcases hy with hy | hy
        · rw [← e2]; exact hr y hy
        · cases hy
      exact h us _ _ a1 (sm_refl _) (dict_new (Q := Q) I (fun c o e => hk c o (fun m => nomatch m) e) dr)
end
def rDictL (K : PySem.W.Frag) (w : World) : List V → Hp → VK → Prop := fun xs H Q => ∃ l ys b ps, xs = [.ref l] ∧ SqL K H l ys ∧ Paired (PrV H b) ys ps ∧ ps.length ≤ sizeLine ∧ ∀ d us ws, H d = none → d ≠ sysModules → Paired RP ps us → Sm (rputs us []) ws → Q (.ref d) (upd H d (dO w d ws))
theorem cr_dictL {X : Cx} (hc : X.calm = true) (hu : X.A.units + 12 < cLine) : CallR X (.type "dict") (rDictL X.K X.w) := by
  intro pl s σ H xs us Q I r ⟨l, ys, b, ps, e, sq, rp, hz, q⟩
  subst e
  cases r with
  | cons r t =>
    cases t; cases r
    exact dv_pairs (I.ok.hd hc) hu I sq rp hz fun us ws s' a1 sm I' => ⟨.ref _, _, I', rfl, q _ us ws (I.hok.fresh (Nat.le_refl _)) (Ne.symm (Nat.ne_of_lt I.big)) a1 sm⟩

/-! ### .. abstractly -/
def pairsA (b : Bool) : List A → Option (List (NestedKey × A))
  | [] => some []
  | .tup [k, v] :: r => (match toK 8 k with
    | some key => (match kind key with
      | some c => (match c == b with
        | true => (match pairsA b r with
          | some ps => some ((key, v) :: ps)
          | none => none)
        | false => none)
      | none => none)
    | none => none)
  | _ => none
def putsA : List (NestedKey × A) → List (NestedKey × A) → List (NestedKey × A)
  | [], kvs => kvs
  | x :: r, kvs => putsA r (putA x.1 x.2 kvs)
/-- the kind of the first key -/
def kind1 : List A → Bool
  | .tup (.tup _ :: _) :: _ => true
  | _ => false
def dictL (xs : List A) (h : Ah) : Rs A := match pairsA (kind1 xs) xs with
  | some ps => (match Nat.ble ps.length 16777216 with
    | true => .ok (.ref h.n) (h.push (.dct false (putsA ps [])))
    | false => .no)
  | none => .no
section
variable {g : Gl} {ρ : Nat → Addr} {n : Nat} {H : Hp}
theorem pairsA_ok {b : Bool} : ∀ {xs : List A} {ys : List V} {kvs : List (NestedKey × A)}, pairsA b xs = some kvs → RVs g ρ n H xs ys → ∃ ps, Paired (PrV H b) ys ps ∧ Paired (fun (k : NestedKey × A) (p : NestedKey × V × V) => k.1 = p.1 ∧ kind k.1 = some b ∧ k.1.depth ≤ 8 ∧ RV g ρ n H (kA k.1) p.2.1 ∧ RV g ρ n H k.2 p.2.2) kvs ps
  | [], _, _, e, r => by
    unfold pairsA at e; cases e
    rw [r.unnil]
    exact ⟨[], .nil, .nil⟩
  | x :: xs, _, kvs, e, r => by
    unfold pairsA at e
    split at e
    · rename_i hx; cases hx
    · rename_i k v xs' hx
      cases hx
      split at e
      · rename_i key h1
        split at e
        · rename_i c h2
          split at e
          · rename_i h3
            have h3 : c = b := by simpa using h3
            subst h3
            split at e
            · rename_i ps h4
              cases e
              obtain ⟨y, ys, rfl, r1, r2⟩ := r.uncons
              obtain ⟨qs, a1, a2⟩ := pairsA_ok h4 r2
              obtain ⟨t, zs, rfl, ht, rz⟩ := r1.tup'
              obtain ⟨ky, vy, rfl, rk, rv⟩ := rz.two
              obtain ⟨h5, h6⟩ := toK_ok _ _ _ h1
              have rk' : RV g ρ n H (kA key) ky := by rw [h5]; exact rk
              exact ⟨(key, ky, vy) :: qs, .cons ⟨⟨t, rfl, ht⟩, h2, h6, keyV_of rk'⟩ a1, .cons ⟨rfl, h2, h6, rk', rv⟩ a2⟩
            · cases e
          · cases e
        · cases e
      · cases e
    · cases e
theorem rd_nil {d : Addr} (h : (d == sysModules) = false) : RD g ρ n H d [] [] := ⟨h, .nil, ⟨false, fun _ m => nomatch m⟩, List.nodup_nil, Nat.zero_le _⟩
theorem RD.sm {d : Addr} {kvs : List (NestedKey × A)} {vs ws : Rw} (r : RD g ρ n H d kvs vs) (h : Sm vs ws) : RD g ρ n H d kvs ws := ⟨r.sys, rel_sm r.rel h, r.uni, r.dup, r.len⟩
theorem putA_len {k : NestedKey} {a : A} : ∀ {kvs : List (NestedKey × A)}, (putA k a kvs).length ≤ kvs.length + 1
  | [] => Nat.le_refl _
  | x :: r => by
    unfold putA
    split
    · (simp only [List.length_cons]; omega)
    · simp only [List.length_cons]; have := putA_len (k := k) (a := a) (kvs := r); omega
theorem RD.puts {d : Addr} {b : Bool} : ∀ {ks : List (NestedKey × A)} {ps : List (NestedKey × V × V)} {us : Rw} {kvs : List (NestedKey × A)} {vs : Rw}, RD g ρ n H d kvs vs → (∀ x ∈ kvs, kind x.1 = some b) →
    Paired (fun (k : NestedKey × A) (p : NestedKey × V × V) => k.1 = p.1 ∧ kind k.1 = some b ∧ k.1.depth ≤ 8 ∧ RV g ρ n H (kA k.1) p.2.1 ∧ RV g ρ n H k.2 p.2.2) ks ps → Paired RP ps us → kvs.length + ks.length ≤ sizeLine → RD g ρ n H d (putsA ks kvs) (rputs us vs)
  | _, _, _, _, _, r, _, .nil, .nil, _ => r
  | k :: ks, p :: ps, u :: us, kvs, vs, r, hb, .cons ⟨e1, h1, h2, h3, h4⟩ t, .cons ⟨e2, h5, h6⟩ t', hl => by
    rw [List.length_cons] at hl
    have e : k.1 = u.1 := e1.trans e2
    have r2 := r.put hb h1 h2 ⟨_, h5, h3⟩ ⟨_, h6, h4⟩ (sm_refl _) (by omega)
    rw [e] at r2
    show RD g ρ n H d (putsA ks (putA k.1 k.2 kvs)) (rputs us (rput u.1 u.2.1 u.2.2 vs))
    rw [e]
    refine RD.puts r2 (fun x m => ?_) t t' (by have := putA_len (k := u.1) (a := k.2) (kvs := kvs); omega)
    rcases putA_mem m with z | ⟨y, hy, z⟩
    · rw [z, ← e]; exact h1
    · rw [← z]; exact hb y hy
end
theorem lo_dict {g : Gl} {K : PySem.W.Frag} {w : World} (hw : w = g.w) : ListOk g K (rDictL K w) dictL := by
  subst hw
  intro W ρ ρc n H Hc h σ Q vs ys p e r hq rv pp
  unfold dictL at pp
  split at pp
  · rename_i ks hks
    split at pp
    · rename_i hl
      have hl : ks.length ≤ sizeLine := by rw [sizeLine_eq]; exact Nat.le_of_ble_eq_true hl
      obtain ⟨ps, a1, a2⟩ := pairsA_ok hks rv
      refine ⟨p, ys, _, ps, rfl, hq, a1, by rw [← Paired.length a2]; exact hl, fun d us ws hd hs a3 sm => ?_⟩
      have ex : Ext ρc h.n Hc (put ρc h.n d) (h.n + 1) (upd Hc d (dO g.w d ws)) := ext_put hd
      have rd : RD g (put ρc h.n d) (h.n + 1) (upd Hc d (dO g.w d ws)) d (putsA ks []) ws := by
        have r0 := RD.puts (us := us) (rd_nil (g := g) (ρ := ρc) (n := h.n) (H := Hc) (d := d) (beq_eq_false_iff_ne.mpr hs)) (fun _ m => nomatch m) a2 a3 (by rw [List.length_nil]; omega)
        exact (r0.sm sm).imp fun _ _ q => q.mono ex
      exact pp (put ρc h.n d) _ (e.trans ex) (r.pushO hd ⟨ws, rd, upd_same⟩) _ (by unfold RV; exact ⟨Nat.lt_succ_self _, by rw [put_same]⟩)
    · exact pp.elim
  · exact pp.elim
end Ev

namespace Ev
open PySem PySem.Spec L2
open PyProof.Rows hiding St

/-! ### displays of dicts -/
theorem raw_empty {w : World} (h : Heap) : DRaw w h.objs.size [] (h.push { cls := .type "dict", data := .dict #[] }) := ⟨_, #[], 0, Heap.get?_push_size _ rfl, ⟨rfl, rfl, rfl⟩, rfl, rfl, List.nodup_nil⟩
def tDNew (w : World) : TE := fun _ H Q => ∀ p, H p = none → p ≠ sysModules → Q (.ref p) (upd H p (dO w p []))
theorem laid_empty {X : Cx} {pl : List (Addr × Obj)} {σ : St} {H : Hp} {s : Shared} (I : Inv X pl σ H s) : Inv X pl σ (upd H s.heap.objs.size (dO X.w s.heap.objs.size [])) { s with heap := s.heap.push { cls := .type "dict", data := .dict #[] } } :=
  I.laid (t' := s.toks) (fun _ _ q => Heap.get?_push_of_some _ q) (Nat.le_refl _) (draw_new (raw_empty s.heap))
theorem pe_dnew {X : Cx} {pos : Pos} : PE X (.Dict [] [] pos) (tDNew X.w) := ⟨fun pl s σ H Q I h =>
  wpAny_Dict_empty ⟨.ref s.heap.objs.size, _, laid_empty I, rfl, h _ (I.hok.fresh (Nat.le_refl _)) (Ne.symm (Nat.ne_of_lt I.big))⟩⟩
def fDict0 : FE := fun _ h => .ok (.ref h.n) (h.push (.dct false []))
theorem rh_dct {g : Gl} {ρ : Nat → Addr} {H : Hp} {h : Ah} {d : Addr} (r : RH g ρ H h) (hd : H d = none) (hs : d ≠ sysModules) : RH g (put ρ h.n d) (upd H d (dO g.w d [])) (h.push (.dct false [])) :=
  r.pushO hd ⟨[], rd_nil (beq_eq_false_iff_ne.mpr hs), upd_same⟩
theorem rv_last {g : Gl} {ρ : Nat → Addr} {n : Nat} {H : Hp} {d : Addr} : RV g (put ρ n d) (n + 1) H (.ref n) (.ref d) := by
  unfold RV
  exact ⟨Nat.lt_succ_self _, by rw [put_same]⟩
section
variable {X : Cx} {g : Gl} {W : WX} {pos : Pos}
theorem ee_dnew (hw : X.w = g.w) : PE X (.Dict [] [] pos) (rdE g W fDict0) := pe_dnew.imp fun σ H Q ⟨ρ, s, h, rs, r, p⟩ => fun d hd hs => by
  rw [hw]
  exact p (put ρ h.n d) _ (ext_put hd) (rh_dct r hd hs) _ rv_last
/-- the pairs of a display -/
abbrev FP := Sa → Ah → Rs (List (A × A))
def fpNil : FP := fun _ h => .ok [] h
def fpCons (fk fv : FE) (fr : FP) : FP := fun s h => (fk s h).bind fun k h1 => (fv s h1).bind fun v h2 => (fr s h2).bind fun ps h3 => .ok ((k, v) :: ps) h3
abbrev TP' := St → Hp → (List (V × V) → Hp → Prop) → Prop
structure PDs (X : Cx) (pos : Pos) (keys : List (Option Expr)) (values : List Expr) (t : TP') : Prop where
  run : ∀ (pl : List (Addr × Obj)) (s : Shared) (σ : St) (H : Hp) (Q : List (V × V) → Hp → Prop), Inv X pl σ H s → t σ H Q →
    wpAny (model X.prog X.w) X.A (evalPairs (pairTrees keys values X.env pos)) (fun vs s' => ∃ ps H', Inv X pl σ H' s' ∧ VV ps vs ∧ Q ps H') X.xe s
def RVp (g : Gl) (ρ : Nat → Addr) (n : Nat) (H : Hp) : List (A × A) → List (V × V) → Prop := Paired fun a v => RV g ρ n H a.1 v.1 ∧ RV g ρ n H a.2 v.2
def rdP (g : Gl) (W : WX) (f : FP) : TP' := fun σ H Q => ∃ ρ s h, RS g ρ h.n H s σ ∧ RH g ρ H h ∧ Post g W ρ h.n H σ (fun vs ρ' h' H' => ∀ xs, RVp g ρ' h'.n H' vs xs → Q xs H') (f s h)
theorem ed_nil : PDs X pos [] [] (rdP g W fpNil) := ⟨fun pl s σ H Q I ⟨ρ, s', h, rs, r, p⟩ => pairTrees_nil_walk ⟨[], H, I, .nil, p.now .refl r [] .nil⟩⟩
theorem rdP.seq {α β : Type} {ρ ρc : Nat → Addr} {n : Nat} {H Hc : Hp} {h : Ah} {σ : St} {f : FP} {k : List (A × A) → Ah → Rs β} {Qb : β → (Nat → Addr) → Ah → Hp → Prop} {Q : List (V × V) → Hp → Prop} {s : Sa} (rs : RS g ρc h.n Hc s σ) (r : RH g ρc Hc h) (e : Ext ρ n H ρc h.n Hc) (p : Post g W ρ n H σ Qb ((f s h).bind k))
    (q : ∀ vs xs ρ1 h1 H1, Ext ρc h.n Hc ρ1 h1.n H1 → RH g ρ1 H1 h1 → RVp g ρ1 h1.n H1 vs xs → Post g W ρ n H σ Qb (k vs h1) → Q xs H1) : rdP g W f σ Hc Q :=
  ⟨ρc, s, h, rs, r, Post.seq e p fun v ρ1 h1 H1 _ e1 r1 p1 x rx => q v x ρ1 h1 H1 e1 r1 rx p1⟩
theorem ed_cons {k v : Expr} {ks : List (Option Expr)} {vs : List Expr} {fk fv : FE} {fr : FP} (hk : PE X k (rdE g W fk)) (hv : PE X v (rdE g W fv)) (hr : PDs X pos ks vs (rdP g W fr)) : PDs X pos (some k :: ks) (v :: vs) (rdP g W (fpCons fk fv fr)) :=
  ⟨fun pl s σ H Q I ⟨ρ, s', h, rs, r, p⟩ => by
    have h0 : rdE g W fk σ H fun x H1 => rdE g W fv σ H1 fun y H2 => rdP g W fr σ H2 fun ps H3 => Q ((x, y) :: ps) H3 :=
      rdE.seq (σ' := σ) rs r .refl p fun k x ρ1 h1 H1 e1 r1 rx p1 => rdE.seq (σ' := σ) (rs.mono e1) r1 e1 p1 fun v y ρ2 h2 H2 e2 r2 ry p2 =>
        rdP.seq (α := Unit) ((rs.mono e1).mono e2) r2 (e1.trans e2) p2 fun vs xs ρ3 h3 H3 e3 r3 rxs p3 => p3.now ((e1.trans e2).trans e3) r3 _ (.cons ⟨(rx.mono e2).mono e3, ry.mono e3⟩ rxs)
    exact pairTrees_cons_walk (thn (hk.run pl s σ H _ I h0) fun u s1 ⟨x, H1, I1, rx, q1⟩ => thn (hv.run pl s1 σ H1 _ I1 q1) fun w2 s2 ⟨y, H2, I2, ry, q2⟩ =>
      thn (hr.run pl s2 σ H2 _ I2 q2) fun ws s3 ⟨ps, H3, I3, rel, q3⟩ => ⟨(x, y) :: ps, H3, I3, .cons ⟨rx, ry⟩ rel, q3⟩)⟩
def keysA (b : Bool) : List (A × A) → Option (List (NestedKey × A))
  | [] => some []
  | (k, v) :: r => (match toK 8 k with
    | some key => (match kind key with
      | some c => (match c == b with
        | true => (match keysA b r with
          | some ps => some ((key, v) :: ps)
          | none => none)
        | false => none)
      | none => none)
    | none => none)
def kindP : List (A × A) → Bool
  | (.tup _, _) :: _ => true
  | _ => false
/-- the new dict, empty while its pairs are made -/
def fDict (b : Bool) (f : FP) : FE := fun s h => (f s (h.push (.dct false []))).bind fun ps h1 => match h1.get h.n with
  | some (.dct false []) => (match keysA b ps with
    | some kvs => (match Nat.ble kvs.length 16777216 with
      | true => .ok (.ref h.n) (h1.set h.n (.dct false (putsA kvs [])))
      | false => .no)
    | none => .no)
  | _ => .no
end
def DPs (H : Hp) (b : Bool) (q : V × V) (p : NestedKey × V × V) : Prop := q = p.2 ∧ kind p.1 = some b ∧ p.1.depth ≤ 8 ∧ KeyV H p.1 p.2.1
theorem keysA_ok {g : Gl} {ρ : Nat → Addr} {n : Nat} {H : Hp} {b : Bool} : ∀ {xs : List (A × A)} {ys : List (V × V)} {kvs : List (NestedKey × A)}, keysA b xs = some kvs → RVp g ρ n H xs ys → ∃ ps, Paired (DPs H b) ys ps ∧ Paired (fun (k : NestedKey × A) (p : NestedKey × V × V) => k.1 = p.1 ∧ kind k.1 = some b ∧ k.1.depth ≤ 8 ∧ RV g ρ n H (kA k.1) p.2.1 ∧ RV g ρ n H k.2 p.2.2) kvs ps
  | [], _, _, e, .nil => by
    unfold keysA at e; cases e
    exact ⟨[], .nil, .nil⟩
  | (k, v) :: xs, y :: ys, kvs, e, .cons ⟨r1, r2⟩ t => by
    unfold keysA at e
    split at e
    · rename_i key h1
      split at e
      · rename_i c h2
        split at e
        · rename_i h3
          have h3 : c = b := by simpa using h3
          subst h3
          split at e
          · rename_i ps h4
            cases e
            obtain ⟨qs, a1, a2⟩ := keysA_ok h4 t
            obtain ⟨h5, h6⟩ := toK_ok _ _ _ h1
            have rk' : RV g ρ n H (kA key) y.1 := by rw [h5]; exact r1
            exact ⟨(key, y.1, y.2) :: qs, .cons ⟨rfl, h2, h6, keyV_of rk'⟩ a1, .cons ⟨rfl, h2, h6, rk', r2⟩ a2⟩
          · cases e
        · cases e
      · cases e
    · cases e
section
variable {X : Cx} {pl : List (Addr × Obj)} {σ : St} {H : Hp} {s : Shared}
theorem carr_leaf : ∀ {ys : List (V × V)} {ps : List (NestedKey × V × V)} {vs : List (Value × Value)}, Paired (DPs H false) ys ps → VV ys vs → ∃ us : Rw, Paired RP ps us ∧ Carries (mixKind X.prog X.w) vs (us.map pK) ∧ ∀ x ∈ us, kind x.1 = some false
  | _, _, _, .nil, .nil => ⟨[], .nil, trivial, fun _ m => nomatch m⟩
  | y :: _, p :: ps, u :: vs, .cons ⟨e, h1, h2, h3⟩ t, .cons ⟨r1, r2⟩ t' => by
    obtain ⟨us, a1, a2, a3⟩ := carr_leaf t t'
    subst e
    refine ⟨(p.1, u.1, u.2) :: us, .cons ⟨rfl, r1, r2⟩ a1, ⟨is_lk h1 h3 r1, rfl, a2⟩, fun x m => ?_⟩
    rcases List.mem_cons.mp m with z | m
    · subst z; exact h1
    · exact a3 x m
theorem carr_nest (I : Inv X pl σ H s) : ∀ {ys : List (V × V)} {ps : List (NestedKey × V × V)} {vs : List (Value × Value)}, Paired (DPs H true) ys ps → VV ys vs → ∃ us : Rw, Paired RP ps us ∧ CarriesH (nestedKind X.prog X.w) s.heap vs (us.map pN) ∧ ∀ x ∈ us, x.2.1 = .ref (ra x.2.1)
  | _, _, _, .nil, .nil => ⟨[], .nil, trivial, fun _ m => nomatch m⟩
  | y :: _, p :: ps, u :: vs, .cons ⟨e, h1, h2, h3⟩ t, .cons ⟨r1, r2⟩ t' => by
    obtain ⟨us, a1, a2, a3⟩ := carr_nest I t t'
    subst e
    have hr := ref_of h1 h3 r1
    refine ⟨(p.1, u.1, u.2) :: us, .cons ⟨rfl, r1, r2⟩ a1, ⟨hr, rfl, ⟨?_, h2⟩, a2⟩, fun x m => ?_⟩
    · show NestedIs s.heap p.1 (.ref (ra u.1))
      rw [← hr]
      exact nis I h3 r1
    · rcases List.mem_cons.mp m with z | m
      · subst z; exact hr
      · exact a3 x m
end
def tDispD (w : World) (b : Bool) (t : TP') : TE := fun σ H Q => ∀ d, H d = none → d ≠ sysModules → t σ (upd H d (dO w d [])) fun ys H2 => H2 d = some (dO w d []) ∧ ∃ ps, Paired (DPs H2 b) ys ps ∧ ∀ us ws, Paired RP ps us → Sm (rputs us []) ws → Q (.ref d) (upd H2 d (dO w d ws))
theorem dv_nil {w : World} {H : Hp} {d : Addr} {b : Bool} (hs : d ≠ sysModules) (e : H d = some (dO w d [])) : Dv w H d false b [] := ⟨beq_eq_false_iff_ne.mpr hs, e, (fun _ m => nomatch m), List.nodup_nil, Nat.zero_le _⟩
theorem pe_dispD {X : Cx} {pos : Pos} {keys : List (Option Expr)} {values : List Expr} {t : TP'} (b : Bool) (hu : X.A.units + 9 < cLine) (h : PDs X pos keys values t) (hall : keys.all (·.isSome) = true) (hl : keys.length = values.length) (h0 : keys ≠ []) (h15 : keys.length ≤ 15) : PE X (.Dict keys values pos) (tDispD X.w b t) := by
  refine ⟨fun pl s σ H Q I q => ?_⟩
  have hs : s.heap.objs.size ≠ sysModules := Ne.symm (Nat.ne_of_lt I.big)
  have q := q _ (I.hok.fresh (Nat.le_refl s.heap.objs.size)) hs
  have I1 := laid_empty I
  cases b with
  | false =>
    refine wpAny_Dict_walk (knd := mixKind X.prog X.w) hall hl h0 h15 (thn (h.run pl _ σ _ _ I1 q) fun vs s2 ⟨ys, H2, I2, rel, e, ps, dp, q2⟩ => ?_)
    obtain ⟨us, a1, a2, a3⟩ := carr_leaf (X := X) dp rel
    have D := dv_nil (b := false) hs e
    refine ⟨us.map pK, a2, D.leaf I2, fun h' dd hsb => ?_⟩
    rw [show merged [] (us.map pK) = (rputs us []).map pK from puts_leaf (us := us) (vs := []) a3 (fun _ m => nomatch m) List.nodup_nil] at dd
    obtain ⟨ws, sm, dr⟩ := raw_leaf dd fun x m => by
      obtain ⟨y, hy, e1, _⟩ := rputs_mem m
      rcases hy with hy | hy
      · rw [← e1]; exact a3 y hy
      · cases hy
    exact ⟨.ref _, _, dv_write I2 D hsb dr, rfl, q2 us ws a1 sm⟩
  | true =>
    have hn := pairTrees_length keys values X.env pos hall hl
    have ht : pairTrees keys values X.env pos ≠ [] := fun z => h0 (List.length_eq_zero_iff.mp (by rw [← hn, z]; rfl))
    rw [arm_eval_Dict, zip_pairTrees keys values X.env pos hall hl, dictDisplay_pairs _ ht (by omega)]
    refine bnd (wpAny_standAt (bnd (wpAny_subDictH (knd := nestedKind X.prog X.w) (by show X.A.units + 8 < cLine; omega) (by omega) (thn (h.run pl _ σ _ _ I1 q) fun vs s2 ⟨ys, H2, I2, rel, e, ps, dp, q2⟩ => ?_))))
    obtain ⟨us, a1, a2, a3⟩ := carr_nest I2 dp rel
    have D := dv_nil (b := true) hs e
    refine ⟨us.map pN, a2, D.nest I2, fun h' tk dd hsb => ?_⟩
    rw [show storedAllH [] (us.map pN) = (rputs us []).map pN from puts_nest (us := us) (vs := []) List.nodup_nil] at dd
    have dr := raw_nest dd fun x m => by
      obtain ⟨y, hy, e1, e2⟩ := rputs_mem m
      rcases hy with hy | hy
      · rw [← e2]; exact a3 y hy
      · cases hy
    exact pur ⟨.ref _, _, dv_write I2 D hsb dr, rfl, q2 us _ a1 (sm_refl _)⟩
section
variable {X : Cx} {g : Gl} {W : WX} {pos : Pos}
theorem ee_disp {keys : List (Option Expr)} {values : List Expr} {f : FP} (b : Bool) (hw : X.w = g.w) (hu : X.A.units + 9 < cLine) (h : PDs X pos keys values (rdP g W f)) (hall : keys.all (·.isSome) = true := by rfl) (hl : keys.length = values.length := by rfl) (h0 : keys ≠ [] := by exact fun z => nomatch z) (h15 : keys.length ≤ 15 := by decide) :
    PE X (.Dict keys values pos) (rdE g W (fDict b f)) := (pe_dispD b hu h hall hl h0 h15).imp fun σ H Q ⟨ρ, s, h, rs, r, p⟩ => fun d hd hs => by
  rw [hw]
  have e0 : Ext ρ h.n H (put ρ h.n d) (h.n + 1) (upd H d (dO g.w d [])) := ext_put hd
  have r0 := rh_dct r hd hs
  refine rdP.seq (α := Unit) (h := h.push (.dct false [])) (rs.mono e0) r0 e0 p fun vs xs ρ1 h1 H1 e1 r1 rx p1 => ?_
  split at p1
  · rename_i hk
    split at p1
    · rename_i kvs hkv
      split at p1
      · rename_i hlen
        have hlt : h.n < h1.n := r1.lt hk
        obtain ⟨ws0, d1, d2⟩ := r1.dct hk
        have eρ : ρ1 h.n = d := by rw [e1.ag h.n (Nat.lt_succ_self _), put_same]
        rw [eρ] at d1 d2
        have ew : ws0 = [] := by
          cases d1.rel
          rfl
        subst ew
        refine ⟨d2, ?_⟩
        obtain ⟨ps, a1, a2⟩ := keysA_ok hkv rx
        refine ⟨ps, a1, fun us ws a3 sm => ?_⟩
        have d2' : H1 (ρ1 h.n) = some (dO g.w d []) := by rw [eρ]; exact d2
        have ex : Ext ρ1 h1.n H1 ρ1 h1.n (upd H1 (ρ1 h.n) (dO g.w d ws)) := ext_wr r1 hlt d2' (fun _ q => nomatch q) fun _ _ q => nomatch q
        have rd : RD g ρ1 h1.n (upd H1 (ρ1 h.n) (dO g.w d ws)) d (putsA kvs []) ws := by
          have r0 := RD.puts (us := us) (rd_nil (g := g) (ρ := ρ1) (n := h1.n) (H := H1) (d := d) (beq_eq_false_iff_ne.mpr hs)) (fun _ m => nomatch m) a2 a3 (by
            rw [List.length_nil, Nat.zero_add, sizeLine_eq]
            exact Nat.le_of_ble_eq_true hlen)
          exact (r0.sm sm).imp fun _ _ q => q.mono ex
        have rh := r1.wr (x := .dct false (putsA kvs [])) hlt d2' (fun _ q => nomatch q) (fun _ _ q => q.mono ex) (by rw [eρ] at rd ⊢; exact ⟨ws, rd, upd_same⟩)
        have := p1 ρ1 _ ((e0.trans e1).trans ex) rh (.ref (ρ1 h.n)) (by unfold RV; exact ⟨hlt, rfl⟩)
        rw [eρ] at this
        exact this
      · exact p1.elim
    · exact p1.elim
  · exact p1.elim
end

/-! ### xs[i] op= e -/
def rGetL (K : PySem.W.Frag) : V → V → Hp → VK → Prop := rIxL K
theorem get_list {X : Cx} : PGet X (rGetL X.K) := by
  intro pl s σ H o i ov iv Q I ro ri ⟨p, xs, k, z, e1, e2, hq, he, q⟩
  subst e1 e2
  cases ro
  obtain ⟨t, rfl⟩ := ri
  obtain ⟨its, r, pn, hz⟩ := I.list hq
  obtain ⟨j, h1, h2, h3, h4, h5⟩ := atI_get he; obtain ⟨w, ew, rw'⟩ := r.get h2; have hl := r.length
  have hn := line63
  have fin : EP X pl σ Q w s := ⟨z, H, I, rw', q⟩
  by_cases h0 : 0 ≤ k
  · have hj : k.toNat = j := by
      rw [seqIndex_of h0 h5] at h1
      exact Option.some.inj h1
    exact wpAny_getItem_list pn.isList h0 (by omega) (by rw [hj]; simpa using ew) fin
  · have hj : (k + (its.toArray.size : Int)).toNat = j := by
      rw [seqIndex_neg (by omega) h4] at h1; rw [List.size_toArray, ← hl]
      exact Option.some.inj h1
    exact wpAny_getItem_list_neg pn.isList (by omega) (by rw [List.size_toArray] <;> omega) (by omega) (by rw [hj]; simpa using ew) fin
/-- an int of a list at j -/
def intAt (o i : A) (h : Ah) : Option (Nat × List A × Nat × Int) := match o, i with
  | .ref k, .int j => (match h.get k with
    | some (.lst xs) => (match ixN xs.length j with
      | some m => (match xs[m]? with
        | some (.int a) => some (k, xs, m, a)
        | _ => none)
      | none => none)
    | _ => none)
  | _, _ => none
def fAugI (f2 : Int → Int → Int) (fo fi f : FE) : FS := fun s h => (fo s h).toS s fun o h1 => (fi s h1).toS s fun i h2 => match intAt o i h2 with
  | some (k, xs, m, a) => (f s h2).toS s fun v h3 => (match v with
    | .int b => (match h3.get k with
      | some (.lst ys) => (match ixN ys.length (match i with | .int j => j | _ => 0) with
        | some m' => .nx s (h3.set k (.lst (ys.set m' (.int (f2 a b)))))
        | none => .no)
      | _ => .no)
    | _ => .no)
  | none => .no
theorem atI_of_ixN {α : Type} {xs : List α} {j : Int} {m : Nat} {x : α} (h : ixN xs.length j = some m) (e : xs[m]? = some x) : atI xs j = some x := by
  unfold atI
  rw [h]
  exact e

section
variable {X : Cx} {g : Gl} {W : WX} {pos : Pos}
theorem es_augI {o i e : Expr} {f fo fi : FE} {op : Operator} {f2 : Int → Int → Int} {tpos : Pos} (ho : PE X o (rdE g W fo)) (hi : PE X i (rdE g W fi)) (he : PE X e (rdE g W f)) (hp : PIp X op (ipI f2))
    (ha : ∀ ov iv new, augStore i ov iv new = (do holding [new, ov, iv] (setItem ov iv new); release [new, ov, iv] []; pure .next) := by intros; rfl) : PS X (.AugAssign (.Subscript o i tpos) op e pos) (rdS g W (fAugI f2 fo fi f)) :=
  (ps_augS ho hi get_list he hp set_list ha).imp fun D σ H ⟨ρ, s, h, rs, r, p⟩ => rdS.e rs r .refl p fun ov o' ρ1 h1 H1 e1 r1 ro p1 => rdS.e (rs.mono e1) r1 e1 p1 fun iv i' ρ2 h2 H2 e2 r2 ri p2 => by
    split at p2
    · rename_i k xs m a hk
      unfold intAt at hk
      split at hk
      · rename_i k' j
        split at hk
        · rename_i xs' hk2
          split at hk
          · rename_i m' hm
            split at hk
            · rename_i a' ha'
              cases hk
              have ro2 := ro.mono e2
              obtain ⟨hlt, rfl⟩ := ro2.ref'
              cases ri.int'
              obtain ⟨ys, hy, rys⟩ := r2.lst hk2
              obtain ⟨av, h3, h4⟩ := rys.get ha'
              cases h4.int'
              refine ⟨_, ys, j, .int a, rfl, rfl, .of hy, atI_of_ixN (by rw [← rys.length]; exact hm) h3, rdS.e ((rs.mono e1).mono e2) r2 (e1.trans e2) p2 fun v x ρ3 h3 H3 e3 r3 rx p3 => ?_⟩
              split at p3
              · rename_i b
                cases rx.int'
                split at p3
                · rename_i zs hk3
                  split at p3
                  · rename_i m3 hm3
                    have ek : ρ3 k = ρ2 k := e3.ag k hlt
                    have hlt3 := r3.lt hk3
                    obtain ⟨us, hu, rus⟩ := r3.lst hk3
                    have ee := (e1.trans e2).trans e3
                    have eu := ext_upd (ys' := us.set m3 (.int (f2 a b))) r3 hlt3 hu
                    rw [ek] at hu eu
                    refine ⟨a, b, rfl, rfl, _, us, j, m3, rfl, rfl, hu, by rw [← rus.length]; exact hm3, ?_⟩
                    have rh := r3.upd hlt3 (by rw [ek]; exact hu) (rus.set m3 (rv_int (i := f2 a b)))
                    rw [ek] at rh
                    exact p3 ρ3 _ σ (ee.trans eu) rh ((((rs.mono e1).mono e2).mono e3).mono eu)
                  · exact p3.elim
                · exact p3.elim
              · exact p3.elim
            · cases hk
          · cases hk
        · cases hk
      · cases hk
    · exact p2.elim
end
end Ev

namespace Ev
open PySem PySem.Spec L2
open PyProof.Rows hiding St

/-! ### walking a dict that is locked -/
def vOf : Value → V
  | .none => .non
  | .bool b => .bl b
  | .int i _ => .int i
  | .str x _ => .str x
  | .bytes b _ => .byt b
  | .float b _ => .flt b
  | .ref a => .ref a
  | .type n => .ty n
  | _ => .non
theorem vOf_eq : ∀ {v : V} {u : Value}, L2.RelV v u → vOf u = v
  | .non, _, h => by rw [show _ = Value.none from h]; rfl
  | .bl b, _, h => by rw [show _ = Value.bool b from h]; rfl
  | .int i, _, ⟨t, h⟩ => by rw [h]; rfl
  | .str i, _, ⟨t, h⟩ => by rw [h]; rfl
  | .byt i, _, ⟨t, h⟩ => by rw [h]; rfl
  | .flt i, _, ⟨t, h⟩ => by rw [h]; rfl
  | .ref i, _, h => by rw [show _ = Value.ref i from h]; rfl
  | .ty i, _, h => by rw [show _ = Value.type i from h]; rfl
theorem relV_one {v v' : V} {u : Value} (h : L2.RelV v u) (h' : L2.RelV v' u) : v = v' := (vOf_eq h).symm.trans (vOf_eq h')
section
variable {X : Cx} {pl : List (Addr × Obj)} {σ : St} {H : Hp} {s : Shared} {d : Addr} {ob : Obj} {vs : Rw}
theorem frz_raw {w : World} (I : Inv X pl σ H s) (h : H d = some (.frz ob (dO w d vs))) : ∃ es ep, ob.data = .dict es ep ∧ s.heap.DictRaw d es ep ∧ es.size = vs.length ∧ ∀ (i : Nat) (x : NestedKey × Value × Value) (hi : i < es.size), vs[i]? = some x → es[i].key = x.2.1 ∧ es[i].val = x.2.2 := by
  obtain ⟨h1, ⟨o', es, ep, h2, h3, h4, h5, _⟩, _⟩ := I.hok d _ h
  rw [h1] at h2
  cases h2
  have hz : es.size = vs.length := by rw [← Array.length_toList, h5, List.length_map]
  refine ⟨es, ep, h4, ⟨ob, h1, h3, h4⟩, hz, fun i x hi e => ?_⟩
  have q : es.toList[i]? = some ⟨x.1.hash w, x.2.1, x.2.2⟩ := by rw [h5, List.getElem?_map, e]; rfl
  rw [Array.getElem?_toList, Array.getElem?_eq_getElem hi] at q
  have q := Option.some.inj q
  rw [q]
  exact ⟨rfl, rfl⟩
end
def pkV : Bool → NestedKey × Value × Value → Value
  | true, x => x.2.1
  | false, x => x.2.2
/-- the keys, or the values -/
def Idv (w : World) (m : Bool) (d : Addr) (o : Obj) (vs : Rw) : It :=
  ⟨fun i H => H d = some (.frz o (dO w d vs)) ∧ ∃ x v, vs[i]? = some x ∧ RelV v (pkV m x), fun i H v H' => H' = H ∧ ∃ x, vs[i]? = some x ∧ RelV v (pkV m x), fun i H => H d = some (.frz o (dO w d vs)) ∧ vs.length ≤ i⟩
/-- the pairs -/
def Idp (w : World) (d : Addr) (o : Obj) (vs : Rw) : It :=
  ⟨fun i H => H d = some (.frz o (dO w d vs)) ∧ ∃ x v u, vs[i]? = some x ∧ RelV v x.2.1 ∧ RelV u x.2.2, fun i H v H' => ∃ T x k u, vs[i]? = some x ∧ RelV k x.2.1 ∧ RelV u x.2.2 ∧ v = .ref T ∧ H T = none ∧ H' = upd H T (.tup [k, u]), fun i H => H d = some (.frz o (dO w d vs)) ∧ vs.length ≤ i⟩
theorem same_dict {o : Obj} {es fs : Array DictEntry} {ep eq : Nat} (h : o.data = .dict es ep) (h' : o.data = .dict fs eq) : fs = es ∧ eq = ep := by
  rw [h] at h'
  cases h'
  exact ⟨rfl, rfl⟩
section
variable {P : Program} {w : World} {K : PySem.W.Frag} {tg : Expr} {d : Addr} {o : Obj} {es : Array DictEntry} {ep : Nat} {vs : Rw}
theorem turn_dkeys (it : Addr) (hod : o.data = .dict es ep) : Turn P w K tg (Idv w true d o vs) [it] it (fun i h => h.IsKeyIter it d i es.size ep) where
  mem := List.mem_singleton.mpr rfl
  obj := fun i h st b hb => by
    rw [List.mem_singleton.mp hb]
    obtain ⟨oi, e, c, dd⟩ := st
    exact ⟨oi, e, fun v z => nomatch dd.symm.trans z⟩
  keep := fun i h h' st k => st.at fun oi e => k it (List.mem_singleton.mpr rfl) oi e
  item := by
    intro X e1 e2 e3 hc i pl s σ H E I ok st ⟨hd, x, v, hx, rv⟩
    subst e1 e2 e3
    obtain ⟨g0, g1, g2, g3, g4, g5⟩ := ok it (List.mem_singleton.mpr rfl)
    obtain ⟨es', ep', h1, h2, h3, h4⟩ := frz_raw I hd
    obtain ⟨rfl, rfl⟩ := same_dict hod h1
    have hi : i < es'.size := by rw [h3]; exact (List.getElem?_eq_some_iff.mp hx).1
    refine wpAny_pyNext_keys_item_raw st h2 hi fun h' now_ sb => ?_
    have J : Inv X pl σ H { s with heap := h' } := I.turned (t' := s.toks) (fun c oc hc e => (sb.2 c hc).trans e) g0 g1 g3 g4 g5
    obtain ⟨oi, q1, q2, q3⟩ := id now_
    exact ⟨_, rfl, go_of (s := { s with heap := h' }) q1 q2 q3 (by decide) ⟨v, H, J, by rw [(h4 i x hi hx).1]; exact rv, ⟨rfl, x, hx, rv⟩, now_, fun c hc => (ok c hc).1⟩⟩
  done := by
    intro X e1 e2 e3 hc i pl s σ H E I ok st ⟨hd, hi⟩
    subst e1 e2 e3
    obtain ⟨g0, g1, g2, g3, g4, g5⟩ := ok it (List.mem_singleton.mpr rfl)
    obtain ⟨es', ep', h1, h2, h3, h4⟩ := frz_raw I hd
    obtain ⟨rfl, rfl⟩ := same_dict hod h1
    exact wpAny_pyNext_keys_end_raw (I.ok.hd hc) st h2 (by omega) fun h' eb => ⟨rfl, I.turned (t' := s.toks) (fun c oc hc e => eb c oc hc e) g0 g1 g3 g4 g5⟩
  self := fun _ _ _ _ _ now_ q => wpAny_pyIter_keyiter now_ q
theorem turn_dvals (it : Addr) (hod : o.data = .dict es ep) : Turn P w K tg (Idv w false d o vs) [it] it (fun i h => h.IsValIter it d i es.size ep) where
  mem := List.mem_singleton.mpr rfl
  obj := fun i h st b hb => by
    rw [List.mem_singleton.mp hb]
    obtain ⟨oi, e, c, dd⟩ := st
    exact ⟨oi, e, fun v z => nomatch dd.symm.trans z⟩
  keep := fun i h h' st k => st.at fun oi e => k it (List.mem_singleton.mpr rfl) oi e
  item := by
    intro X e1 e2 e3 hc i pl s σ H E I ok st ⟨hd, x, v, hx, rv⟩
    subst e1 e2 e3
    obtain ⟨g0, g1, g2, g3, g4, g5⟩ := ok it (List.mem_singleton.mpr rfl)
    obtain ⟨es', ep', h1, h2, h3, h4⟩ := frz_raw I hd
    obtain ⟨rfl, rfl⟩ := same_dict hod h1
    have hi : i < es'.size := by rw [h3]; exact (List.getElem?_eq_some_iff.mp hx).1
    refine wpAny_pyNext_values_item_raw st h2 hi fun h' now_ sb => ?_
    have J : Inv X pl σ H { s with heap := h' } := I.turned (t' := s.toks) (fun c oc hc e => (sb.2 c hc).trans e) g0 g1 g3 g4 g5
    obtain ⟨oi, q1, q2, q3⟩ := id now_
    exact ⟨_, rfl, go_of (s := { s with heap := h' }) q1 q2 q3 (by decide) ⟨v, H, J, by rw [(h4 i x hi hx).2]; exact rv, ⟨rfl, x, hx, rv⟩, now_, fun c hc => (ok c hc).1⟩⟩
  done := by
    intro X e1 e2 e3 hc i pl s σ H E I ok st ⟨hd, hi⟩
    subst e1 e2 e3
    obtain ⟨g0, g1, g2, g3, g4, g5⟩ := ok it (List.mem_singleton.mpr rfl)
    obtain ⟨es', ep', h1, h2, h3, h4⟩ := frz_raw I hd
    obtain ⟨rfl, rfl⟩ := same_dict hod h1
    exact wpAny_pyNext_values_end_raw (I.ok.hd hc) st h2 (by omega) fun h' eb => ⟨rfl, I.turned (t' := s.toks) (fun c oc hc e => eb c oc hc e) g0 g1 g3 g4 g5⟩
  self := fun _ _ _ _ _ now_ q => wpAny_pyIter_valiter now_ q
theorem turn_dpairs {elts : List Expr} {kk : Nat} {tp : Pos} (it : Addr) (hod : o.data = .dict es ep) : Turn P w K (.Tuple elts kk tp) (Idp w d o vs) [it] it (fun i h => ∃ a b, IsItemIter h it d i es.size ep a b) where
  mem := List.mem_singleton.mpr rfl
  obj := fun i h st b hb => by
    rw [List.mem_singleton.mp hb]
    obtain ⟨_, _, e⟩ := st
    exact ⟨_, e, nofun⟩
  keep := fun i h h' ⟨a, b, e⟩ k => ⟨a, b, k it (List.mem_singleton.mpr rfl) _ e⟩
  item := by
    intro X e1 e2 e3 hc i pl s σ H E I ok ⟨a, b, st⟩ ⟨hd, x, v, u, hx, rv, ru⟩
    subst e1 e2 e3
    obtain ⟨es', ep', h1, h2, h3, h4⟩ := frz_raw I hd
    obtain ⟨rfl, rfl⟩ := same_dict hod h1
    have hi : i < es'.size := by rw [h3]; exact (List.getElem?_eq_some_iff.mp hx).1
    have blw : it < s.heap.objs.size := Heap.lt_size st
    obtain ⟨ek, ev⟩ := h4 i x hi hx
    refine wpAny_pyNext_items_item_raw st h2 hi fun h' out tz hz kp => ?_
    refine ⟨_, rfl, wpAny_letOwnedTupleGo_items (s := { s with heap := h' }) out fun h'' now_ sb => ?_⟩
    have hT2 : h''.get? s.heap.objs.size = some { cls := .type "tuple", data := .seq #[es'[i].key, es'[i].val] } := (sb.2 _ (Nat.ne_of_gt blw)).trans tz
    have nob : ObjOk X.prog X.w (upd H s.heap.objs.size (.tup [v, u])) h'' s.heap.objs.size (.tup [v, u]) :=
      ⟨by show 2 ≤ sizeLine; decide, [es'[i].key, es'[i].val], .cons (by rw [ek]; exact rv) (.cons (by rw [ev]; exact ru) .nil), ⟨_, hT2, rfl, _, rfl⟩⟩
    have J : Inv X pl σ (upd H s.heap.objs.size (.tup [v, u])) { s with heap := h'' } :=
      I.turnedNew (t' := s.toks) (ch := [it]) (fun c oc hc e => (sb.2 c (fun z => hc (List.mem_singleton.mpr z))).trans (kp c oc (fun z => hc (List.mem_singleton.mpr z)) e)) ok (Nat.le_refl _) nob
    refine ⟨.ref s.heap.objs.size, _, J, rfl, ⟨_, x, v, u, hx, rv, ru, rfl, I.hok.fresh (Nat.le_refl _), rfl⟩, ⟨_, _, now_⟩, fun c hc => ?_⟩
    rw [List.mem_singleton.mp hc, upd_ne (Nat.ne_of_lt blw)]
    exact (ok it (List.mem_singleton.mpr rfl)).1
  done := by
    intro X e1 e2 e3 hc i pl s σ H E I ok ⟨a, b, st⟩ ⟨hd, hi⟩
    subst e1 e2 e3
    obtain ⟨g0, g1, g2, g3, g4, g5⟩ := ok it (List.mem_singleton.mpr rfl)
    obtain ⟨es', ep', h1, h2, h3, h4⟩ := frz_raw I hd
    obtain ⟨rfl, rfl⟩ := same_dict hod h1
    exact wpAny_pyNext_items_end_raw (I.ok.hd hc) st h2 (by omega) fun h' eb => ⟨rfl, I.turned (t' := s.toks) (fun c oc hc e => eb c oc hc e) g0 g1 g3 g4 g5⟩
  self := fun A i s Q E ⟨_, _, e⟩ h => PySem.W.kcp_self e h
end
/-! .. begun: the dict is locked already, or is locked from here on -/
def iDv (w : World) (J : Obj → Addr → Rw → It) (td : TE) : TI := fun σ H R => td σ H fun x H1 => ∃ d vs, x = .ref d ∧ (d == sysModules) = false ∧ ((∃ o, H1 d = some (.frz o (dO w d vs)) ∧ R (J o d vs) H1) ∨ (H1 d = some (dO w d vs) ∧ ∀ o, R (J o d vs) (upd H1 d (.frz o (dO w d vs)))))
section
variable {X : Cx} {td : TE} {apos cpos : Pos} {tg e : Expr}
theorem lock_case {pl : List (Addr × Obj)} {σ : St} {H : Hp} {s : Shared} {w : World} {d : Addr} {vs : Rw} {R : It → Hp → Prop} {J : Obj → It} (I : Inv X pl σ H s) (h : (∃ o, H d = some (.frz o (dO w d vs)) ∧ R (J o) H) ∨ (H d = some (dO w d vs) ∧ ∀ o, R (J o) (upd H d (.frz o (dO w d vs))))) :
    ∃ o H', Inv X pl σ H' s ∧ H' d = some (.frz o (dO w d vs)) ∧ R (J o) H' := by
  rcases h with ⟨o, h1, h2⟩ | ⟨h1, h2⟩
  · exact ⟨o, H, I, h1, h2⟩
  · obtain ⟨o, I2⟩ := I.lock h1 True.intro
    exact ⟨o, _, I2, upd_same, h2 o⟩
theorem pi_dkeys (he : PE X e td) : PI X tg e (iDv X.w (fun o d vs => Idv X.w true d o vs) td) := by
  refine ⟨fun pl s σ H R I h => ?_⟩
  refine thn (he.run pl s σ H _ I h) fun u s1 ⟨x, H1, I1, rx, d, vs, ex, hs, q⟩ => ?_
  subst ex
  cases rx
  obtain ⟨o, H2, I2, hd, q⟩ := lock_case (J := fun o => Idv X.w true d o vs) I1 q
  obtain ⟨es, ep, h1, h2, h3, h4⟩ := frz_raw I2 hd
  exact wpAny_pyIter_dict_raw hs h2 (pi_one (tk := s1.toks) I2 _ (turn_dkeys _ h1) ⟨_, Heap.get?_push_size _ rfl, rfl, rfl⟩ q)
theorem raw_no {h : Heap} {d : Addr} {es : Array DictEntry} {ep : Nat} (x : h.DictRaw d es ep) : ∀ a, Value.ref d = .ref a → ∃ o, h.get? a = some o ∧ o.dict = none := fun a z => by
  cases z
  obtain ⟨o, ho, hx, _⟩ := x
  exact ⟨o, ho, hx.2.1⟩
theorem pi_dvals (he : PE X e td) (nb : attributeBase e "values" X.env (eval e X.env) = eval e X.env := by rfl) (nl : (apos.endLine == cpos.line) = true := by rfl) : PI X tg (.Call (.Attribute e "values" apos) [] [] cpos) (iDv X.w (fun o d vs => Idv X.w false d o vs) td) := by
  refine ⟨fun pl s σ H R I h => ?_⟩
  refine wpAny_Call_method (T := "dict") (id := "dict.values") nb rfl nl F.plainAttrs_dict F.slot_dict_values F.type_dict_values (thn (he.run pl s σ H _ I h) fun u s1 ⟨x, H1, I1, rx, d, vs, ex, hs, q⟩ => ?_)
  subst ex
  cases rx
  obtain ⟨o, H2, I2, hd, q⟩ := lock_case (J := fun o => Idv X.w false d o vs) I1 q
  obtain ⟨es, ep, h1, h2, h3, h4⟩ := frz_raw I2 hd
  refine ⟨h2.typeIs, raw_no h2, ?_⟩
  have I3 : Inv X pl σ H2 { s1 with heap := s1.heap.push { cls := .type "dict_values", data := .fields #[.ref d] } } := I2.kept (t' := s1.toks) fun b ob q => Heap.get?_push_of_some _ q
  have fin : wpAny (model X.prog X.w) X.A (pyIter (.ref s1.heap.objs.size)) (PIE X pl σ tg R) X.xe { s1 with heap := s1.heap.push { cls := .type "dict_values", data := .fields #[.ref d] } } :=
    wpAny_pyIter_values_raw ⟨_, Heap.get?_push_size _ rfl, rfl, rfl⟩ (h2.push _) (pi_one (tk := s1.toks) I3 _ (turn_dvals _ h1) ⟨_, Heap.get?_push_size _ rfl, rfl, rfl⟩ q)
  show wpAny _ _ (callWith cpos (.builtin "dict.values") [.ref d] [] []) _ X.xe s1; exact method_meetsIn F.slot_dict_values F.entry_dict_values rfl (PySem.evalArgs_none ⟨rfl, h2.typeIs, F.args_dict_values_1 _, _, meets_dict_values_raw d hs, ⟨es, ep, h2⟩, fin⟩)
theorem pi_dpairs {elts : List Expr} {kk : Nat} {tp : Pos} (he : PE X e td) (nb : attributeBase e "items" X.env (eval e X.env) = eval e X.env := by rfl) (nl : (apos.endLine == cpos.line) = true := by rfl) : PI X (.Tuple elts kk tp) (.Call (.Attribute e "items" apos) [] [] cpos) (iDv X.w (fun o d vs => Idp X.w d o vs) td) := by
  refine ⟨fun pl s σ H R I h => ?_⟩
  refine wpAny_Call_method (T := "dict") (id := "dict.items") nb rfl nl F.plainAttrs_dict F.slot_dict_items F.type_dict_items (thn (he.run pl s σ H _ I h) fun u s1 ⟨x, H1, I1, rx, d, vs, ex, hs, q⟩ => ?_)
  subst ex
  cases rx
  obtain ⟨o, H2, I2, hd, q⟩ := lock_case (J := fun o => Idp X.w d o vs) I1 q
  obtain ⟨es, ep, h1, h2, h3, h4⟩ := frz_raw I2 hd
  refine ⟨h2.typeIs, raw_no h2, ?_⟩
  have I3 : Inv X pl σ H2 { s1 with heap := s1.heap.push { cls := .type "dict_items", data := .fields #[.ref d] } } := I2.kept (t' := s1.toks) fun b ob q => Heap.get?_push_of_some _ q
  have fin : wpAny (model X.prog X.w) X.A (pyIter (.ref s1.heap.objs.size)) (PIE X pl σ (.Tuple elts kk tp) R) X.xe { s1 with heap := s1.heap.push { cls := .type "dict_items", data := .fields #[.ref d] } } :=
    wpAny_pyIter_items_raw ⟨_, Heap.get?_push_size _ rfl, rfl, rfl⟩ (h2.push _) (pi_one (tk := s1.toks) I3 _ (turn_dpairs _ h1) ⟨.none, .none, Heap.get?_push_size _ rfl⟩ q)
  show wpAny _ _ (callWith cpos (.builtin "dict.items") [.ref d] [] []) _ X.xe s1; exact method_meetsIn F.slot_dict_items F.entry_dict_items rfl (PySem.evalArgs_none ⟨rfl, h2.typeIs, F.args_dict_items_1 _, _, meets_dict_items_raw d hs, ⟨es, ep, h2⟩, fin⟩)
end
end Ev

namespace Ev
open PySem PySem.Spec L2
open PyProof.Rows hiding St

/-! ### walks of dicts, abstractly -/
theorem paired_at {α β : Type} {F : α → β → Prop} : ∀ {l : List α} {m : List β} {i : Nat} {x : α}, Paired F l m → l[i]? = some x → ∃ y, m[i]? = some y ∧ F x y
  | _, _, _, _, .nil, e => (by simp at e)
  | _, _, 0, _, .cons r _, e => by
    rw [List.getElem?_cons_zero] at e; cases e
    exact ⟨_, rfl, r⟩
  | _, _, i + 1, _, .cons _ t, e => by
    rw [List.getElem?_cons_succ] at e
    obtain ⟨y, h1, h2⟩ := paired_at t e
    exact ⟨y, by rw [List.getElem?_cons_succ]; exact h1, h2⟩
section
variable {g : Gl} {ρ : Nat → Addr} {n : Nat} {H : Hp} {d : Addr} {o : Obj} {vs : Rw} {kvs : List (NestedKey × A)}
def pkA : Bool → NestedKey × A → A
  | true, x => kA x.1
  | false, x => x.2
theorem RE.pk {m : Bool} {x : NestedKey × A} {y : NestedKey × Value × Value} (r : RE g ρ n H x y) : RU g ρ n H (pkA m x) (pkV m y) := by
  cases m with
  | true => exact r.2.1
  | false => exact r.2.2
theorem rj_dv {m : Bool} (hd : H d = some (.frz o (dO g.w d vs))) (rel : Paired (RE g ρ n H) kvs vs) : RJ g ρ n H (Idv g.w m d o vs) (.tup (kvs.map (pkA m))) := by
  intro ρ' h' H' i ox e r q
  have hd' := e.fz _ _ _ hd
  have rel' : Paired (RE g ρ' h'.n H') kvs vs := Paired.mapP rel fun _ _ z => z.imp fun _ _ w => w.monoT e
  unfold Ja.nxt at q
  have q := Option.some.inj q
  subst q
  rw [List.getElem?_map]
  cases ex : kvs[i]? with
  | some x =>
    obtain ⟨y, hy, ry⟩ := paired_at rel' ex
    obtain ⟨v, h1, h2⟩ := ry.pk (m := m)
    refine ⟨⟨hd', y, v, hy, h1⟩, fun u H'' ⟨z1, z, z2, z3⟩ => ?_⟩
    subst z1
    rw [hy] at z2
    cases z2
    exact ⟨.refl, r, relV_one h1 z3 ▸ h2⟩
  | none =>
    refine ⟨hd', ?_⟩
    rw [← Paired.length rel]
    exact List.getElem?_eq_none_iff.mp ex
def pairA (x : NestedKey × A) : A := .tup [kA x.1, x.2]
theorem rj_dp (hd : H d = some (.frz o (dO g.w d vs))) (rel : Paired (RE g ρ n H) kvs vs) : RJ g ρ n H (Idp g.w d o vs) (.tup (kvs.map pairA)) := by
  intro ρ' h' H' i ox e r q
  have hd' := e.fz _ _ _ hd
  have rel' : Paired (RE g ρ' h'.n H') kvs vs := Paired.mapP rel fun _ _ z => z.imp fun _ _ w => w.monoT e
  unfold Ja.nxt at q
  have q := Option.some.inj q
  subst q
  rw [List.getElem?_map]
  cases ex : kvs[i]? with
  | some x =>
    obtain ⟨y, hy, _, ⟨v, h1, h2⟩, u, h3, h4⟩ := paired_at rel' ex
    refine ⟨⟨hd', y, v, u, hy, h1, h3⟩, fun w H'' ⟨T, y', k', u', z1, z2, z3, z4, z5, z6⟩ => ?_⟩
    subst z4 z6
    rw [hy] at z1
    cases z1
    cases relV_one h1 z2
    cases relV_one h3 z3
    exact ⟨ext_new z5, r.new z5, rv_tup upd_same (.cons (h2.mono (ext_new z5)) (.cons (h4.mono (ext_new z5)) .nil))⟩
  | none =>
    refine ⟨hd', ?_⟩
    rw [← Paired.length rel]
    exact List.getElem?_eq_none_iff.mp ex
end
/-- the dict is locked from here on -/
def lockA (v : A) (h : Ah) : Option (List (NestedKey × A) × Ah) := match v with
  | .ref k => (match h.get k with
    | some (.dct true kvs) => some (kvs, h)
    | some (.dct false kvs) => some (kvs, h.set k (.dct true kvs))
    | _ => none)
  | _ => none
theorem lockA_ok {g : Gl} {K : PySem.W.Frag} {W : WX} {ρ ρc : Nat → Addr} {n : Nat} {H Hc : Hp} {h h1 : Ah} {σ : St} {v : A} {x : V} {kvs : List (NestedKey × A)} {R : It → Hp → Prop} {ja : Ja} {J : Obj → Addr → Rw → It}
    (jo : ∀ {ρ : Nat → Addr} {n : Nat} {H : Hp} {d : Addr} {o : Obj} {vs : Rw}, H d = some (.frz o (dO g.w d vs)) → Paired (RE g ρ n H) kvs vs → RJ g ρ n H (J o d vs) ja)
    (e : Ext ρ n H ρc h.n Hc) (r : RH g ρc Hc h) (rx : RV g ρc h.n Hc v x) (el : lockA v h = some (kvs, h1)) (p : Post g W ρ n H σ (fun ja ρ' h' H' => ∀ J, RJ g ρ' h'.n H' J ja → R J H') (.ok ja h1)) :
    ∃ d vs, x = .ref d ∧ (d == sysModules) = false ∧ ((∃ o, Hc d = some (.frz o (dO g.w d vs)) ∧ R (J o d vs) Hc) ∨ (Hc d = some (dO g.w d vs) ∧ ∀ o, R (J o d vs) (upd Hc d (.frz o (dO g.w d vs))))) := by
  unfold lockA at el
  split at el
  · rename_i k
    split at el
    · rename_i kvs' hk
      cases el
      obtain ⟨hlt, rfl⟩ := rx.ref'
      obtain ⟨vs, d1, o, d2⟩ := r.dct hk
      exact ⟨_, vs, rfl, d1.sys, .inl ⟨o, d2, p.now e r _ (jo d2 d1.rel)⟩⟩
    · rename_i kvs' hk
      cases el
      obtain ⟨hlt, rfl⟩ := rx.ref'
      obtain ⟨vs, d1, d2⟩ := r.dct hk
      refine ⟨_, vs, rfl, d1.sys, .inr ⟨d2, fun o => ?_⟩⟩
      have ex : Ext ρc h.n Hc ρc h.n (upd Hc (ρc k) (.frz o (dO g.w (ρc k) vs))) := ext_wr r hlt d2 (fun _ q => nomatch q) fun _ _ q => nomatch q
      have d1' : RD g ρc h.n (upd Hc (ρc k) (.frz o (dO g.w (ρc k) vs))) (ρc k) kvs vs := d1.imp fun _ _ q => q.mono ex
      have rh := r.wr (x := .dct true kvs) hlt d2 (fun _ q => nomatch q) (fun _ _ q => q.mono ex) ⟨vs, d1', o, upd_same⟩
      exact p ρc _ (e.trans ex) rh _ (jo upd_same d1'.rel)
    · cases el
  · cases el
def iDkA (m : Bool) (f : FE) : FI := fun s h => (f s h).bind fun v h1 => match lockA v h1 with
  | some (kvs, h2) => .ok (.tup (kvs.map (pkA m))) h2
  | none => .no
def iDpA (f : FE) : FI := fun s h => (f s h).bind fun v h1 => match lockA v h1 with
  | some (kvs, h2) => .ok (.tup (kvs.map pairA)) h2
  | none => .no
section
variable {X : Cx} {g : Gl} {W : WX} {pos : Pos} {tg e : Expr} {apos cpos : Pos} {f : FE}
theorem ei_dvals (hw : X.w = g.w) (ce : PE X e (rdE g W f)) (nb : attributeBase e "values" X.env (eval e X.env) = eval e X.env := by rfl) (nl : (apos.endLine == cpos.line) = true := by rfl) : PI X tg (.Call (.Attribute e "values" apos) [] [] cpos) (rdI g W (iDkA false f)) :=
  (pi_dvals ce nb nl).imp fun σ H R ⟨ρ, s, h, rs, r, p⟩ => rdE.seq (σ' := σ) rs r .refl p fun v x ρ1 h1 H1 e1 r1 rx p1 => by
    rw [hw]
    split at p1
    · rename_i kvs h2 hl
      exact lockA_ok (K := X.K) rj_dv e1 r1 rx hl p1
    · exact p1.elim
theorem ei_dpairs {elts : List Expr} {kk : Nat} {tp : Pos} (hw : X.w = g.w) (ce : PE X e (rdE g W f)) (nb : attributeBase e "items" X.env (eval e X.env) = eval e X.env := by rfl) (nl : (apos.endLine == cpos.line) = true := by rfl) : PI X (.Tuple elts kk tp) (.Call (.Attribute e "items" apos) [] [] cpos) (rdI g W (iDpA f)) :=
  (pi_dpairs ce nb nl).imp fun σ H R ⟨ρ, s, h, rs, r, p⟩ => rdE.seq (σ' := σ) rs r .refl p fun v x ρ1 h1 H1 e1 r1 rx p1 => by
    rw [hw]
    split at p1
    · rename_i kvs h2 hl
      exact lockA_ok (K := X.K) rj_dp e1 r1 rx hl p1
    · exact p1.elim
/-- a list, a tuple or a dict -/
theorem pi_sqd {l : Expr} {tl : TE} (hl : PE X l tl) : PI X tg l (fun σ H R => tl σ H fun x HB => (∃ b a ys, x = .ref a ∧ Sq X.K b HB a ys ∧ R (Itsq X.K b a) HB) ∨ ∃ d vs, x = .ref d ∧ (d == sysModules) = false ∧ ((∃ o, HB d = some (.frz o (dO X.w d vs)) ∧ R (Idv X.w true d o vs) HB) ∨ (HB d = some (dO X.w d vs) ∧ ∀ o, R (Idv X.w true d o vs) (upd HB d (.frz o (dO X.w d vs)))))) := by
  refine ⟨fun pl s σ H R I h => ?_⟩
  refine thn (hl.run pl s σ H _ I h) fun v sB ⟨x, HB, IB, rB, qB⟩ => ?_
  rcases qB with ⟨b, a, ys, e, sqa, q⟩ | ⟨d, vs, e, hs, q⟩
  · subst e
    cases rB
    have fp : ∀ c ∈ [sB.heap.objs.size], FpOk X pl HB c := fun c hb => by
      rw [List.mem_singleton.mp hb]
      exact IB.fpOk (Nat.le_refl _) (IB.hok.fresh (Nat.le_refl _))
    cases b with
    | true =>
      obtain ⟨im, vs1, p, cz⟩ := IB.list sqa
      exact wpAny_pyIter_list p.isList ⟨sB.heap.objs.size, [sB.heap.objs.size], _, _, HB, rfl, IB.kept (t' := sB.toks) fun b o e => Heap.get?_push_of_some _ e, turn_list a _, ⟨_, Heap.get?_push_size _ rfl, rfl, rfl⟩, fp, q⟩
    | false =>
      obtain ⟨im, vs1, p, cz⟩ := IB.tuple sqa
      refine wpAny_pyIter_tuple (show sB.heap.IsTuple a im.toArray from p) ?_
      exact ⟨sB.heap.objs.size, [sB.heap.objs.size], _, _, HB, rfl, IB.kept (t' := sB.toks) fun b o e => Heap.get?_push_of_some _ e, turn_tuple a _, ⟨_, Heap.get?_push_size _ rfl, rfl, rfl⟩, fp, q⟩
  · subst e
    cases rB
    obtain ⟨o, H2, I2, hd, q⟩ := lock_case (J := fun o => Idv X.w true d o vs) IB q
    obtain ⟨es, ep, h1, h2, h3, h4⟩ := frz_raw I2 hd
    exact wpAny_pyIter_dict_raw hs h2 (pi_one (tk := sB.toks) I2 _ (turn_dkeys _ h1) ⟨_, Heap.get?_push_size _ rfl, rfl, rfl⟩ q)
def iSeqD (f : FE) : FI := fun s h => (f s h).bind fun v h1 => match isD v h1 with
  | true => (match lockA v h1 with
    | some (kvs, h2) => .ok (.tup (kvs.map (pkA true))) h2
    | none => .no)
  | false => (match seqJ v h1 with
    | some j => .ok j h1
    | none => .no)
theorem ei_seqd (hw : X.w = g.w) (ce : PE X e (rdE g W f)) : PI X tg e (rdI g W (iSeqD f)) :=
  (pi_sqd ce).imp fun σ H R ⟨ρ, s, h, rs, r, p⟩ => rdE.seq (σ' := σ) rs r .refl p fun v x ρ1 h1 HB e1 rB rx p1 => by
    split at p1
    · split at p1
      · rename_i kvs h2 hl
        refine .inr ?_
        rw [hw]
        exact lockA_ok (K := X.K) rj_dv e1 rB rx hl p1
      · exact p1.elim
    · split at p1
      · rename_i j hj
        obtain ⟨b, a, ys, rfl, sj, sq⟩ := seqJ_ok (K := X.K) rB rx hj
        exact .inl ⟨b, a, ys, rfl, sq, p1.now e1 rB _ (rj_one sj)⟩
      · exact p1.elim
end

/-! ### locked while a statement runs -/
section
variable {g : Gl} {W : WX} {ρ ρ' : Nat → Addr} {n n' : Nat} {H H' : Hp} {d : Addr} {od : Obj} {u : HO} {k : Nat}
theorem ext_in (e : Ext ρ n (upd H d (.frz od u)) ρ' n' H') (hd : H d = some u) (nt : ∀ xs, u ≠ .tup xs) (nf : ∀ o x, u ≠ .frz o x) (hk : k < n) (ek : ρ k = d) : Ext ρ n H ρ' n' H' where
  le := e.le
  ag := e.ag
  nw := fun j h1 h2 => by
    have q := e.nw j h1 h2
    by_cases z : ρ' j = d
    · rw [z, upd_same] at q; cases q
    · rw [upd_ne z] at q; exact q
  tp := fun a xs q => e.tp a xs (by
    rw [upd_ne (fun z => by subst z; rw [hd] at q; cases q; exact nt _ rfl)]; exact q)
  fr := fun a o q z => e.fr a o (by rw [upd_ne (fun w => z k hk (by rw [ek, w]))]; exact q) z
  gn := fun a q => by
    have q := e.gn a q
    by_cases z : a = d
    · rw [z, upd_same] at q; cases q
    · rw [upd_ne z] at q; exact q
  fz := fun a o x q => e.fz a o x (by
    rw [upd_ne (fun z => by subst z; rw [hd] at q; cases q; exact nf _ _ rfl)]; exact q)
theorem ext_outL (e : Ext ρ n (upd H d (.frz od u)) ρ' n' H') (hd : H d = some u) (nt : ∀ xs, u ≠ .tup xs) (nf : ∀ o x, u ≠ .frz o x) (hk : k < n) (ek : ρ k = d) : Ext ρ n H ρ' n' (upd H' d u) := by
  have e' := ext_in e hd nt nf hk ek
  exact ⟨e'.le, e'.ag, e'.nw, fun a xs q => by rw [upd_ne (fun z => by subst z; rw [hd] at q; cases q; exact nt _ rfl)]; exact e'.tp a xs q,
    fun a o q z => by rw [upd_ne (fun w => z k hk (by rw [ek, w]))]; exact e'.fr a o q z,
    fun a q => by
      by_cases z : a = d
      · rw [z, upd_same] at q; cases q
      · rw [upd_ne z] at q; exact e'.gn a q,
    fun a o x q => by rw [upd_ne (fun z => by subst z; rw [hd] at q; cases q; exact nf _ _ rfl)]; exact e'.fz a o x q⟩
end
def unlockA (k : Nat) (h : Ah) : Option Ah := match h.get k with
  | some (.dct true kvs) => some (h.set k (.dct false kvs))
  | _ => none
def RsS.unl (k : Nat) : RsS → RsS
  | .nx s h => (match unlockA k h with | some h' => .nx s h' | none => .no)
  | .rt a h => (match unlockA k h with | some h' => .rt a h' | none => .no)
  | .bk s h => (match unlockA k h with | some h' => .bk s h' | none => .no)
  | .ct s h => (match unlockA k h with | some h' => .ct s h' | none => .no)
  | .ex c s h => .ex c s h
  | .no => .no
def fLockS (i : Nat) (f : FS) : FS := fun s h => match s[i]? with
  | some (some (.ref k)) => (match h.get k with
    | some (.dct false kvs) => (f s (h.set k (.dct true kvs))).unl k
    | _ => f s h)
  | _ => f s h
theorem unlockA_ok {g : Gl} {ρ ρ' : Nat → Addr} {n : Nat} {H H' : Hp} {d : Addr} {od : Obj} {u : HO} {k : Nat} {h' h'' : Ah} (e : Ext ρ n (upd H d (.frz od u)) ρ' h'.n H') (hd : H d = some u) (nt : ∀ xs, u ≠ .tup xs) (nf : ∀ o x, u ≠ .frz o x) (hk : k < n) (ek : ρ k = d)
    (r : RH g ρ' H' h') (q : unlockA k h' = some h'') : h''.n = h'.n ∧ H' d = some (.frz od u) ∧ Ext ρ n H ρ' h''.n (upd H' d u) ∧ RH g ρ' (upd H' d u) h'' ∧ Tq ρ' h'.n H' ρ' h''.n (upd H' d u) := by
  have hf : H' d = some (.frz od u) := e.fz _ _ _ upd_same
  unfold unlockA at q
  split at q
  · rename_i kvs hkv
    cases q
    have ek' : ρ' k = d := (e.ag k hk).trans ek
    obtain ⟨vs, d1, o, d2⟩ := r.dct hkv
    rw [ek'] at d1 d2
    rw [hf] at d2
    cases d2
    have tq : Tq ρ' h'.n H' ρ' h'.n (upd H' d (dO g.w d vs)) := ⟨Nat.le_refl _, fun _ _ => rfl, fun a xs q => by rw [upd_ne (fun z => by subst z; rw [hf] at q; cases q)]; exact q⟩
    refine ⟨rfl, hf, ext_outL e hd nt nf hk ek, ?_, tq⟩
    have d3 := d1.imp (H' := upd H' d (dO g.w d vs)) fun _ _ q => q.monoQ tq
    have := r.wr (k := k) (x := .dct false kvs) (u := .frz od (dO g.w d vs)) (u' := dO g.w d vs) (r.lt hkv) (by rw [ek']; exact hf) (fun _ q => nomatch q) (by rw [ek']; exact fun _ _ q => q.monoQ tq) (by rw [ek']; exact ⟨vs, d3, upd_same⟩)
    rw [ek'] at this
    exact this
  · cases q
theorem es_lock {X : Cx} {g : Gl} {W : WX} {st : Stmt} {i : Nat} {f : FS} (hs : PS X st (rdS g W f)) : PS X st (rdS g W (fLockS i f)) := by
  refine ⟨fun pl s σ H D I ⟨ρ, sa, h, rs, r, p⟩ => ?_⟩
  unfold fLockS at p
  split at p
  · rename_i k hi
    split at p
    · rename_i kvs hk
      obtain ⟨vs, d1, d2⟩ := r.dct hk
      have hlt := r.lt hk
      have nt : ∀ xs, dO g.w (ρ k) vs ≠ .tup xs := fun _ q => nomatch q
      have nf : ∀ o x, dO g.w (ρ k) vs ≠ .frz o x := fun _ _ q => nomatch q
      refine (ps_lock hs).run pl s σ H D I ⟨ρ k, _, d2, True.intro, fun od => ?_⟩
      have ex : Ext ρ h.n H ρ h.n (upd H (ρ k) (.frz od (dO g.w (ρ k) vs))) := ext_wr r hlt d2 nt nf
      have rh := r.wr (x := .dct true kvs) hlt d2 nt (fun _ _ q => q.mono ex) ⟨vs, d1.imp fun _ _ q => q.mono ex, od, upd_same⟩
      refine ⟨ρ, sa, h.set k (.dct true kvs), rs.mono ex, rh, ?_⟩
      cases e : f sa (h.set k (.dct true kvs)) with
      | nx s1 h1 =>
        rw [e] at p
        intro ρ' H' σ' e1 r1 rs1
        unfold RsS.unl at p
        dsimp only at p
        split at p
        · rename_i h2 hq
          obtain ⟨a1, a2, a3, a4, a5⟩ := unlockA_ok e1 d2 nt nf hlt rfl r1 hq
          exact ⟨a2, p ρ' _ σ' a3 a4 (rs1.monoQ a5)⟩
        · exact p.elim
      | rt c h1 =>
        rw [e] at p
        intro ρ' H' v e1 r1 rv1
        unfold RsS.unl at p
        dsimp only at p
        split at p
        · rename_i h2 hq
          obtain ⟨a1, a2, a3, a4, a5⟩ := unlockA_ok e1 d2 nt nf hlt rfl r1 hq
          exact ⟨a2, p ρ' _ v a3 a4 (rv1.monoQ a5)⟩
        · exact p.elim
      | bk s1 h1 =>
        rw [e] at p
        intro ρ' H' σ' e1 r1 rs1
        unfold RsS.unl at p
        dsimp only at p
        split at p
        · rename_i h2 hq
          obtain ⟨a1, a2, a3, a4, a5⟩ := unlockA_ok e1 d2 nt nf hlt rfl r1 hq
          exact ⟨a2, p ρ' _ σ' a3 a4 (rs1.monoQ a5)⟩
        · exact p.elim
      | ct s1 h1 =>
        rw [e] at p
        intro ρ' H' σ' e1 r1 rs1
        unfold RsS.unl at p
        dsimp only at p
        split at p
        · rename_i h2 hq
          obtain ⟨a1, a2, a3, a4, a5⟩ := unlockA_ok e1 d2 nt nf hlt rfl r1 hq
          exact ⟨a2, p ρ' _ σ' a3 a4 (rs1.monoQ a5)⟩
        · exact p.elim
      | ex c s1 h1 =>
        rw [e] at p
        intro ρ' H' σ' e1 r1 rs1
        exact p ρ' H' σ' (ext_in e1 d2 nt nf hlt rfl) r1 rs1
      | no => rw [e] at p; exact p
    · exact hs.run pl s σ H D I ⟨ρ, sa, h, rs, r, p⟩
  · exact hs.run pl s σ H D I ⟨ρ, sa, h, rs, r, p⟩
end Ev

namespace Ev
open PySem PySem.Spec L2
open PyProof.Rows hiding St

/-! ### k in d.values(): ints -/
theorem plain_ci : plainId "proto.contains_iter" = true := by decide +kernel
theorem entry_ci : entryFor table "proto.contains_iter" = some Builtin.«proto.contains_iter» := entryFor_of_fast (by kernel_rfl)
theorem vals_no_contains : typeLookup (.type "dict_values") "__contains__" = pure none := by rw [typeLookup_type, builtinLookup_eq_fast]; kernel_rfl
theorem any_from {n i : Nat} {tr : Nat → Bool} (h : i < n) : ((List.range n).drop i).any tr = (tr i || ((List.range n).drop (i + 1)).any tr) := by
  have hd : List.drop i (List.range n) = i :: List.drop (i + 1) (List.range n) := by
    rw [List.drop_eq_getElem_cons (by rw [List.length_range]; exact h)]; simp
  rw [hd, List.any_cons]
section
variable {P : Program} {w : World} {A : Around} {I : Addr} {fp wr : List Addr} {n : Nat} {Pv : Nat → Value → Prop} {St : Nat → Heap → Prop} {R : Result → Shared → Prop} {x : Value} {tr : Nat → Bool}
/-- the model's search along an iterator -/
theorem code_ci (W : Walks P w A.in1 I fp wr n Pv St) (eq : ∀ (i : Nat) (v : Value) (s : Shared) (Q : Bool → Shared → Prop) (E : Value → Shared → Prop), Pv i v → Q (tr i) s → wpAny (model P w) A.in1 (eqBool v x) Q E s) : ∀ (k i : Nat) (s : Shared), n - i = k → i ≤ n → St i s.heap →
    (∀ m tk, (∀ b o, b ∉ wr → s.heap.get? b = some o → m.get? b = some o) → R (.ok (.ret (.bool (((List.range n).drop i).any tr)))) { s with heap := m, toks := tk }) →
    codeAny (model P w) A (.builtin "proto.contains_iter" ⟨[.ref I, x], []⟩) R s
  | 0, i, s, hk, hi, st, hR => by
    have e : i = n := by omega
    subst e
    refine codeAny_builtin entry_ci ?_
    rw [Around.under_plainId plain_ci _]
    show wpAny _ A.in1 (pyNext (.ref I) >>= _) _ _ s; refine bnd (W.done s _ _ st fun h' tk kp => bnd (wpAny_rule (pur ?_)))
    have q := hR h' tk kp
    rw [List.drop_of_length_le (by rw [List.length_range]; exact Nat.le_refl _)] at q
    exact q
  | k + 1, i, s, hk, hi, st, hR => by
    have lt : i < n := by omega
    refine codeAny_builtin entry_ci ?_
    rw [Around.under_plainId plain_ci _]
    show wpAny _ A.in1 (pyNext (.ref I) >>= _) _ _ s; refine bnd (W.item i s _ _ lt st fun v h' tk hv st' kp => bnd (eq i v _ _ _ hv ?_))
    cases e : tr i with
    | true =>
      rw [if_pos rfl]
      refine bnd (wpAny_rule (pur ?_))
      have q := hR h' tk kp
      rw [any_from lt, e, Bool.true_or] at q
      exact q
    | false =>
      rw [if_neg Bool.false_ne_true]; refine pur ⟨plainId_quiet plain_ci _, code_ci W eq k (i + 1) _ (by omega) lt st' fun h'' tk2 kp2 => ?_⟩
      have q := hR h'' tk2 fun b o hb e => kp2 b o hb (kp b o hb e)
      rw [any_from lt, e, Bool.false_or] at q
      exact q
end
section
variable {P : Program} {w : World} {A : Around} {E : Value → Shared → Prop} {s : Shared} {v d : Addr} {es : Array DictEntry} {ep : Nat} {k : Int} {t : Tok} {is : Nat → Int}
theorem contains_vals {Q : Bool → Shared → Prop} (hh : A.handled = none) (hv : s.heap.IsValuesView v d) (hm : s.heap.DictRaw d es ep) (hi : ∀ i (h : i < es.size), ∃ t, es[i].val = .int (is i) t)
    (h : ∀ h' tk, (∀ b o, s.heap.get? b = some o → h'.get? b = some o) → Q ((List.range es.size).any fun i => is i == k) { s with heap := h', toks := tk }) : wpAny (model P w) A (contains (.ref v) (.int k t)) Q E s := by
  have tz : s.TypeIs (.ref v) "dict_values" := hv.typeIs
  unfold contains
  refine wpAny_holding ?_
  rw [stdlibNamesSay?_of_typeIs tz]
  refine bnd (wpAny_specialOf tz vals_no_contains ?_)
  rw [if_neg (show ¬ ((none : Option Value) == some Value.none) = true from Bool.false_ne_true)]
  refine bnd (wpAny_callSpecialUnlessNone?_none tz vals_no_contains (bnd (wpAny_rule (bnd ?_))))
  refine wpAny_tryCatch (wpAny_pyIter_values_raw hv hm ?_)
  have ne : d ≠ s.heap.objs.size := Nat.ne_of_lt hm.lt_size
  have W : Walks P w A.in1 s.heap.objs.size [s.heap.objs.size, d] [s.heap.objs.size] es.size (fun i v => ∃ hi : i < es.size, v = es[i].val) (fun i h => h.IsValIter s.heap.objs.size d i es.size ep ∧ h.DictRaw d es ep) := Walks.rawValues (A := A.in1) hh _ d ne es ep
  refine bnd (wpAny_runValue (code_ci (x := .int k t) (tr := fun i => is i == k) W (fun i v s' Q' E' ⟨lt, e⟩ q => ?_) es.size 0 _ rfl (Nat.zero_le _) ⟨⟨_, Heap.get?_push_size _ rfl, rfl, rfl⟩, hm.push _⟩ fun h' tk kp => ?_))
  · subst e
    obtain ⟨u, eu⟩ := hi i lt
    rw [eu]
    exact wpAny_eqBool_int q
  · refine pur ?_
    exact h h' tk fun b o e => kp b o (fun m => Nat.ne_of_lt (Heap.lt_size e) (List.mem_singleton.mp m)) (Heap.get?_push_of_some _ e)
end
def rVals (w : World) (neg : Bool) : R2 := fun y x H Q => ∃ k d vs fz is, y = .int k ∧ x = .ref d ∧ (d == sysModules) = false ∧ RF H d (dO w d vs) fz ∧ Paired (fun (x : NestedKey × Value × Value) (i : Int) => RelV (.int i) x.2.2) vs is ∧ Q (.bl (Bool.xor neg (is.any (· == k)))) H
theorem any_range (f : Int → Bool) : ∀ (is : List Int), ((List.range is.length).any fun i => f (is.getD i 0)) = is.any f := by
  intro is
  rw [Bool.eq_iff_iff]
  simp only [List.any_eq_true, List.mem_range]
  constructor
  · rintro ⟨i, h1, h2⟩
    refine ⟨is[i], List.getElem_mem h1, ?_⟩
    rw [List.getD_eq_getElem?_getD, List.getElem?_eq_getElem h1] at h2
    exact h2
  · rintro ⟨x, h1, h2⟩
    obtain ⟨i, hi, e⟩ := List.mem_iff_getElem.mp h1
    refine ⟨i, hi, ?_⟩
    rw [List.getD_eq_getElem?_getD, List.getElem?_eq_getElem hi, Option.getD_some, e]
    exact h2
section
variable {X : Cx} {a e : Expr} {ta td : TE} {apos cpos : Pos}
theorem vals_core {pl : List (Addr × Obj)} {σ : St} {H : Hp} {s : Shared} {d : Addr} {vs : Rw} {fz : Bool} {is : List Int} {k : Int} {t : Tok} {Q : Bool → Shared → Prop} {E : Value → Shared → Prop} (hc : X.calm = true) (I : Inv X pl σ H s) (r : RF H d (dO X.w d vs) fz) (p : Paired (fun (x : NestedKey × Value × Value) (i : Int) => RelV (.int i) x.2.2) vs is)
    (hv : s.heap.IsValuesView v d) (h : ∀ s', Inv X pl σ H s' → Q (is.any (· == k)) s') : wpAny (model X.prog X.w) X.A (contains (.ref v) (.int k t)) Q E s := by
  obtain ⟨es, ep, hr, he⟩ := draw_raw (draw_get I r)
  have hz : es.size = vs.length := by rw [← Array.length_toList, he, List.length_map]
  refine contains_vals (is := fun i => is.getD i 0) (I.ok.hd hc) hv hr (fun i hi => ?_) fun h' tk kp => ?_
  · have hi' : i < vs.length := by omega
    obtain ⟨j, hj, t, rj⟩ := paired_at p (List.getElem?_eq_getElem hi')
    have q : es.toList[i]? = some ⟨vs[i].1.hash X.w, vs[i].2.1, vs[i].2.2⟩ := by rw [he, List.getElem?_map, List.getElem?_eq_getElem hi']; rfl
    rw [Array.getElem?_toList, Array.getElem?_eq_getElem hi] at q
    have q := Option.some.inj q
    refine ⟨t, ?_⟩
    rw [q]
    show vs[i].2.2 = _
    rw [rj]
    show Value.int j t = .int (is.getD i 0) t
    rw [List.getD_eq_getElem?_getD, hj]
    rfl
  · rw [hz, Paired.length p, any_range (· == k) is]
    exact h _ (I.kept (t' := tk) fun b o e => kp b o e)
theorem pc_vals {neg : Bool} {op : CmpOp} (hop : op = if neg then .NotIn else .In) (hc : X.calm = true) (ha : PE X a ta) (he : PE X e td) (nb : attributeBase e "values" X.env (eval e X.env) = eval e X.env := by rfl) (nl : (apos.endLine == cpos.line) = true := by rfl) : PC X op a (.Call (.Attribute e "values" apos) [] [] cpos) (tOp (rVals X.w neg) ta td) := by
  refine ⟨fun pl s σ H Q I h => ?_⟩
  refine thn (ha.run pl s σ H _ I h) fun v s1 ⟨y, H1, I1, ry, q1⟩ => ?_
  refine wpAny_Call_method (T := "dict") (id := "dict.values") nb rfl nl F.plainAttrs_dict F.slot_dict_values F.type_dict_values (thn (he.run pl s1 σ H1 _ I1 q1) fun u s2 ⟨x, H2, I2, rx, k, d, vs, fz, is, ey, ex, hs, rf, p, q⟩ => ?_)
  subst ey ex
  cases rx
  obtain ⟨t, rfl⟩ := ry
  obtain ⟨es, ep, hr, _⟩ := draw_raw (draw_get I2 rf)
  refine ⟨hr.typeIs, raw_no hr, ?_⟩
  have I3 : Inv X pl σ H2 { s2 with heap := s2.heap.push { cls := .type "dict_values", data := .fields #[.ref d] } } := I2.kept (t' := s2.toks) fun b ob q => Heap.get?_push_of_some _ q
  have fin : wpAny (model X.prog X.w) X.A (compareOp op (.int k t) (.ref s2.heap.objs.size)) (EP X pl σ Q) X.xe { s2 with heap := s2.heap.push { cls := .type "dict_values", data := .fields #[.ref d] } } := by
    have core : ∀ {Q' : Bool → Shared → Prop}, (∀ s', Inv X pl σ H2 s' → Q' (is.any (· == k)) s') → wpAny (model X.prog X.w) X.A (contains (.ref s2.heap.objs.size) (.int k t)) Q' X.xe { s2 with heap := s2.heap.push { cls := .type "dict_values", data := .fields #[.ref d] } } := fun hq => vals_core hc I3 rf p ⟨_, Heap.get?_push_size _ rfl, rfl, rfl⟩ hq
    cases neg with
    | false =>
      rw [Bool.false_xor] at q
      subst hop
      show wpAny (model X.prog X.w) X.A (do return Value.bool (← contains (.ref s2.heap.objs.size) (.int k t))) _ _ _
      exact bnd (core fun s' I' => pur ⟨.bl _, H2, I', rfl, q⟩)
    | true =>
      rw [Bool.true_xor] at q
      subst hop
      show wpAny (model X.prog X.w) X.A (do return Value.bool (!(← contains (.ref s2.heap.objs.size) (.int k t)))) _ _ _
      exact bnd (core fun s' I' => pur ⟨.bl _, H2, I', rfl, q⟩)
  show wpAny _ _ (callWith cpos (.builtin "dict.values") [.ref d] [] []) _ X.xe s2
  exact method_meetsIn F.slot_dict_values F.entry_dict_values rfl (PySem.evalArgs_none ⟨rfl, hr.typeIs, F.args_dict_values_1 _, _, meets_dict_values_raw d hs, ⟨es, ep, hr⟩, fin⟩)
end
/-! .. abstractly -/
def intsD : List (NestedKey × A) → Option (List Int)
  | [] => some []
  | (_, .int i) :: r => (match intsD r with
    | some is => some (i :: is)
    | none => none)
  | _ => none
theorem intsD_ok {g : Gl} {ρ : Nat → Addr} {n : Nat} {H : Hp} : ∀ {kvs : List (NestedKey × A)} {vs : Rw} {is : List Int}, intsD kvs = some is → Paired (RE g ρ n H) kvs vs → Paired (fun (x : NestedKey × Value × Value) (i : Int) => RelV (.int i) x.2.2) vs is
  | [], _, _, e, .nil => by
    unfold intsD at e; cases e; exact .nil
  | x :: kvs, y :: vs, is, e, .cons r t => by
    unfold intsD at e
    split at e
    · rename_i h; cases h
    · rename_i k i r' h
      cases h
      split at e
      · rename_i js h2
        cases e
        obtain ⟨v, h3, h4⟩ := r.2.2
        cases h4.int'
        exact .cons h3 (intsD_ok h2 t)
      · cases e
    · cases e
def cVals (neg : Bool) : C2 := fun v w h => match v, w with
  | .int k, .ref d => (match h.get d with
    | some (.dct _ kvs) => (match intsD kvs with
      | some is => .ok (Bool.xor neg (is.any (· == k))) h
      | none => .no)
    | _ => .no)
  | _, _ => .no
theorem co_vals {g : Gl} {neg : Bool} {w : World} (hw : w = g.w) : CmpOk g (rVals w neg) (cVals neg) := by
  subst hw
  intro W ρ ρc n H Hc h σ Q v w x y e r rx ry p
  unfold cVals at p
  split at p
  · rename_i k d
    split at p
    · rename_i fz kvs hk
      split at p
      · rename_i is hi
        cases rx.int'
        obtain ⟨_, rfl⟩ := ry.ref'
        obtain ⟨vs, d1, d2⟩ := r.dct hk
        exact ⟨k, _, vs, fz, is, rfl, rfl, d1.sys, d2, intsD_ok hi d1.rel, p.now e r⟩
      · exact p.elim
    · exact p.elim
  · exact p.elim
section
variable {X : Cx} {g : Gl} {W : WX} {pos apos cpos : Pos} {a e : Expr} {fa fe : FE}
theorem ee_vals {neg : Bool} {op : CmpOp} (hop : op = if neg then .NotIn else .In) (hw : X.w = g.w) (hc : X.calm = true) (ha : PE X a (rdE g W fa)) (he : PE X e (rdE g W fe)) (nb : attributeBase e "values" X.env (eval e X.env) = eval e X.env := by rfl) (nl : (apos.endLine == cpos.line) = true := by rfl) (hm : behindInMarks op (.Call (.Attribute e "values" apos) [] [] cpos) = false := by rfl) :
    PE X (.Compare a [op] [.Call (.Attribute e "values" apos) [] [] cpos] pos) (rdE g W (eOfT (t2 (cVals neg) fa fe))) := (pe_cmp (pc_vals hop hc ha he nb nl) hm).imp fun _ _ _ q => rc2 (co_vals hw) (rdE_of_T q)
theorem et_vals {neg : Bool} {op : CmpOp} (hop : op = if neg then .NotIn else .In) (hw : X.w = g.w) (hc : X.calm = true) (ha : PE X a (rdE g W fa)) (he : PE X e (rdE g W fe)) (nb : attributeBase e "values" X.env (eval e X.env) = eval e X.env := by rfl) (nl : (apos.endLine == cpos.line) = true := by rfl) (hm : behindInMarks op (.Call (.Attribute e "values" apos) [] [] cpos) = false := by rfl) :
    PT X (.Compare a [op] [.Call (.Attribute e "values" apos) [] [] cpos] pos) (rdT g W (t2 (cVals neg) fa fe)) := (pt_cmp (pc_vals hop hc ha he nb nl) hm).imp fun σ H Q ⟨ρ, s, h, rs, rh, p⟩ => by
  have q : rdT g W (t2 (cVals neg) fa fe) σ H (fun b H' => (fun x H' => ∃ k, x = V.bl k ∧ Q k H') (.bl b) H') := by
    refine ⟨ρ, s, h, rs, rh, ?_⟩
    cases e : t2 (cVals neg) fa fe s h with
    | ok v h1 => rw [e] at p; exact fun ρ1 H1 e1 r1 => ⟨_, rfl, p ρ1 H1 e1 r1⟩
    | ex c h1 => rw [e] at p; exact p
    | no => rw [e] at p; exact p
  exact rc2 (co_vals hw) q
end
end Ev

namespace Ev
open PySem PySem.Spec L2
open PyProof.Rows hiding St

/-! ### slices of tuples with a step -/
def stepIx (lo : Option Int) (c : Int) (n : Nat) : List Nat :=
  (List.range (Builtin.Slice.slicePlaces (Builtin.Slice.sliceAdjust lo none c n).1 (Builtin.Slice.sliceAdjust lo none c n).2 c)).map fun (k : Nat) => ((Builtin.Slice.sliceAdjust lo none c n).1 + (k : Int) * c).toNat
def pickN {α : Type} (xs : List α) : List Nat → List α
  | [] => []
  | i :: r => match xs[i]? with
    | some x => x :: pickN xs r
    | none => pickN xs r
def stepL {α : Type} (xs : List α) (lo : Option Int) (c : Int) : List α := pickN xs (stepIx lo c xs.length)
theorem pickN_eq {α : Type} (xs : List α) : ∀ is : List Nat, pickN xs is = is.filterMap fun i => xs[i]?
  | [] => rfl
  | i :: r => by
    unfold pickN
    rw [List.filterMap_cons, pickN_eq xs r]
    cases xs[i]? <;> rfl
theorem RVs.pickN {g : Gl} {ρ : Nat → Addr} {n : Nat} {H : Hp} {xs : List A} {ys : List V} (r : RVs g ρ n H xs ys) : ∀ is : List Nat, RVs g ρ n H (Ev.pickN xs is) (Ev.pickN ys is)
  | [] => .nil
  | i :: is => by
    unfold Ev.pickN
    cases e : xs[i]? with
    | some x =>
      obtain ⟨y, h1, h2⟩ := r.get e
      rw [h1]
      exact .cons h2 (RVs.pickN r is)
    | none =>
      rw [r.at_none e]
      exact RVs.pickN r is
theorem RVs.step {g : Gl} {ρ : Nat → Addr} {n : Nat} {H : Hp} {xs : List A} {ys : List V} (r : RVs g ρ n H xs ys) (lo : Option Int) (c : Int) : RVs g ρ n H (stepL xs lo c) (stepL ys lo c) := by
  unfold stepL
  rw [r.length]
  exact r.pickN _
theorem Vals.pickN {xs : List V} {us : List Value} (r : Vals xs us) : ∀ is : List Nat, Vals (Ev.pickN xs is) (Ev.pickN us is)
  | [] => .nil
  | i :: is => by
    unfold Ev.pickN
    cases e : xs[i]? with
    | some x =>
      obtain ⟨y, h1, h2⟩ := r.get e
      rw [h1]
      exact .cons h2 (Vals.pickN r is)
    | none =>
      rw [r.none_of e]
      exact Vals.pickN r is
section
variable {P : Program} {w : World} {s : Shared} {A : Around} {E : Value → Shared → Prop}
theorem applied_step {sl : Addr} {vl vk : Value} {lo : Option Int} {c : Int} {n : Nat} {Q : Int × Int × Nat → Shared → Prop} (hs : s.heap.IsSliceOf sl vl .none vk) (pk : IsPart vk (some c)) (hc : c ≠ 0) (pl : IsPart vl lo)
    (h : Q ((Builtin.Slice.sliceAdjust lo none c n).1, c, Builtin.Slice.slicePlaces (Builtin.Slice.sliceAdjust lo none c n).1 (Builtin.Slice.sliceAdjust lo none c n).2 c) s) : wpAny (model P w) A (Builtin.Slice.sliceApplied (.ref sl) (pure (n : Int))) Q E s := by
  obtain ⟨os, ho, _, hd⟩ := id hs
  unfold Builtin.Slice.sliceApplied Builtin.Slice.sliceFields; refine bnd (bnd (wpAny_field ho hd (x := vl) rfl (bnd (wpAny_field ho hd (x := .none) rfl (bnd (wpAny_field ho hd (x := vk) rfl (pur ?_)))))))
  refine bnd (HT.slicePart_ pk ?_)
  show wpAny _ _ (if (c == 0) = true then _ else _) _ _ s
  rw [if_neg (by simpa using hc)]
  refine bnd (HT.slicePart_ pl (bnd (HT.slicePart_ .none (bnd (pur ?_)))))
  exact pur h
theorem item_step {t sl : Addr} {items : List Value} {vl vk : Value} {lo : Option Int} {c : Int} {Q : Value → Shared → Prop} (ht : IsTup s.heap t items.toArray) (hs : s.heap.IsSliceOf sl vl .none vk) (pk : IsPart vk (some c)) (h0 : c ≠ 0) (h1 : c ≠ 1) (pl : IsPart vl lo) (hl : (stepL items lo c).length ≤ sizeLine)
    (h : Q (.ref s.heap.objs.size) { s with heap := s.heap.push { cls := .type "tuple", data := .seq (stepL items lo c).toArray } }) : wpAny (model P w) A (getItem (.ref t) (.ref sl)) Q E s := by
  obtain ⟨os, ho, hcs, _⟩ := id hs
  have hTs : s.TypeIs (.ref sl) "slice" := ⟨os, ho, hcs⟩
  have fit : sizeOk (.seq (stepL items lo c).toArray) := by
    show (stepL items lo c).toArray.size ≤ sizeLine
    rw [List.size_toArray]; exact hl
  unfold getItem
  try (with_reducible refine wpAny_holding ?_)
  first | refine bnd (pur ?_) | skip
  refine bnd (wpAny_sequenceKey ht.typeIs (by decide) ?_)
  refine bnd (wpAny_callSpecial?_slot (name := Str.ofString "__getitem__") ht.typeIs PyProof.Rows.slot_tuple_getitem
    (wpAny_call_entry PyProof.Rows.slot_tuple_getitem (ht.typeIs) entry_tuple_getitem ?_ (args_tuple_getitem _ _)))
  show wpAny _ _ (Builtin.Tuple.tupleItemsOf (.ref t) >>= _) _ _ s; refine bnd (tupleItemsOf_ ht (bnd (wpAny_typeOf hTs ?_)))
  rw [if_pos (by decide)]
  refine bnd (applied_step hs pk h0 pl ?_)
  show wpAny _ _ (if ((Builtin.Slice.sliceAdjust lo none c (items.toArray.size : Int)).1 == 0 && c == 1 && _) = true then _ else _) _ _ s
  have hc1 : (c == 1) = false := by simpa using h1
  rw [hc1, Bool.and_false, Bool.false_and, if_neg Bool.false_ne_true]
  have epk : ((List.range (Builtin.Slice.slicePlaces (Builtin.Slice.sliceAdjust lo none c (items.toArray.size : Int)).1 (Builtin.Slice.sliceAdjust lo none c (items.toArray.size : Int)).2 c)).filterMap fun (k : Nat) => items.toArray[((Builtin.Slice.sliceAdjust lo none c (items.toArray.size : Int)).1 + (k : Int) * c).toNat]?) = stepL items lo c := by
    unfold stepL stepIx
    rw [pickN_eq, List.filterMap_map, List.size_toArray]
    refine congrArg (fun f => List.filterMap f _) (funext fun k => ?_)
    rw [List.getElem?_toArray]
    rfl
  rw [epk]
  first
    | exact bnd (m := Builtin.Tuple.tupleExact _) (wpAny_newObj_type (pur ⟨_, rfl, pur h⟩) fit)
    | exact bnd (bnd (m := Builtin.Tuple.tupleExact _) (wpAny_newObj_type (pur ⟨_, rfl, pur h⟩) fit))
end
/-- a part that is written: c -/
def tPartC (c : Int) : TO := fun _ H Q => Q (some c) H
def tStep (K : PySem.W.Frag) (te : TE) (tl : TO) (c : Int) : TE := fun σ H Q => te σ H fun x H1 => tl σ H1 fun lo H2 =>
  (∃ a xs, x = .ref a ∧ SqT K H2 a xs ∧ (stepL xs lo c).length ≤ sizeLine ∧ ∀ p, H2 p = none → Q (.ref p) (upd H2 p (.tup (stepL xs lo c)))) ∨
  (c = -1 ∧ lo = none ∧ ∃ a xs, x = .ref a ∧ SqL K H2 a xs ∧ ∀ p, H2 p = none → Q (.ref p) (upd H2 p (.lst xs.reverse)))
section
variable {X : Cx} {e st : Expr} {lo : Option Expr} {te : TE} {tl : TO} {c : Int} {pos p3 : Pos}
theorem po_int {k : Nat} {p : Pos} : PO X (some (.Constant (.int c) k p)) (tPartC c) := ⟨fun pl s σ H Q I h => (po_some pe_int).run pl s σ H Q I ⟨c, rfl, h⟩⟩
theorem po_neg {k : Nat} {p1 p2 : Pos} : PO X (some (.UnaryOp .USub (.Constant (.int c) k p1) p2)) (tPartC (-c)) := ⟨fun pl s σ H Q I h => (po_some (pe_un un_neg pe_int)).run pl s σ H Q I ⟨c, rfl, -c, rfl, h⟩⟩
theorem pe_step (he : PE X e te) (hl : PO X lo tl) (hk : PO X (some st) (tPartC c)) (h0 : c ≠ 0) (h1 : c ≠ 1) : PE X (.Subscript e (.Slice lo none (some st) p3) pos) (tStep X.K te tl c) := by
  refine ⟨fun pl s σ H Q I h => ?_⟩
  refine Subscript_ (thn (he.run pl s σ H _ I h) fun v s1 ⟨x, H1, I1, r1, q1⟩ => ?_)
  refine wpAny_Slice (thn (hl.run pl s1 σ H1 _ I1 q1) fun vl s2 ⟨l, H2, I2, pp, q⟩ => ?_)
  refine thn (po_none.run pl s2 σ H2 (fun o H3 => o = none ∧ H3 = H2) I2 ⟨rfl, rfl⟩) fun vu s3 ⟨u, H3, I3, pu, eu, e3⟩ => ?_
  subst eu e3
  refine thn (hk.run pl s3 σ H3 (fun o H4 => o = some c ∧ H4 = H3) I3 ⟨rfl, rfl⟩) fun vs s4 ⟨o, H4, I4, pk, eo, e4⟩ => ?_
  subst eo e4
  cases pu
  have I5 : Inv X pl σ H4 { s4 with heap := s4.heap.push { cls := .type "slice", data := .fields #[vl, .none, vs] } } := I4.kept (t' := s4.toks) fun b ob q => Heap.get?_push_of_some _ q
  show wpAny (model X.prog X.w) X.A (subscriptTail e (.Slice lo none (some st) p3) v (.ref s4.heap.objs.size)) (EP X pl σ Q) X.xe { s4 with heap := s4.heap.push { cls := .type "slice", data := .fields #[vl, .none, vs] } }
  rcases q with ⟨a, xs, ex, hx, hz, q⟩ | ⟨ec, el, a, xs, ex, hx, q⟩
  · subst ex
    cases r1
    obtain ⟨its, r, ht, _⟩ := I5.tuple hx
    have hlen := r.length
    refine tail_any (ops := [.ref a, .ref s4.heap.objs.size]) ht.typeIs (PyProof.Rows.slot_tuple_getitem.lookup) ?_ (by with_unfolding_all rfl)
    have rs : Vals (stepL xs l c) (stepL its l c) := by
      unfold stepL
      rw [hlen]
      exact Vals.pickN r _
    refine item_step ht (Heap.IsSliceOf.new _ vl .none vs) pk h0 h1 pp (by rw [← rs.length]; exact hz) ?_
    refine ⟨.ref _, _, I5.laid (t' := s4.toks) (o := .tup (stepL xs l c)) (fun b ob q => Heap.get?_push_of_some _ q) (Nat.le_refl _) ?_, rfl, q _ (I5.hok.fresh (Nat.le_refl _))⟩
    exact ⟨hz, _, rs, ⟨_, Heap.get?_push_size _ rfl, rfl, 0, rfl⟩⟩
  · subst ex ec el
    cases r1
    cases pp
    obtain ⟨its, r, ht, hz⟩ := I5.list hx; have hlen := r.length
    refine tail_any (ops := [.ref a, .ref s4.heap.objs.size]) ht.isList.typeIs (PySem.slot_list_getitem.lookup) ?_ (by with_unfolding_all rfl); refine wpAny_getItem_list_slice ht.isList (Heap.IsSliceOf.new _ .none .none vs) .none .none pk (by decide) ?_ (by rw [List.size_toArray]; omega)
    rw [PySem.W.krv_pick]
    refine ⟨.ref _, _, I5.laid (t' := s4.toks) (o := .lst xs.reverse) (fun b ob q => Heap.get?_push_of_some _ q) (Nat.le_refl _) ?_, rfl, q _ (I5.hok.fresh (Nat.le_refl _))⟩; exact ⟨(List.length_reverse (as := xs)).symm ▸ hz, _, 0, r.reverse, Heap.get?_push_size _ rfl⟩
end
def fStep (fa : FE) (lo : FO) (c : Int) : FE := fun s h => (fa s h).bind fun v h1 => (lo s h1).bind fun l h2 => match v with
  | .tup xs => (match lenOk (stepL xs l c) with
    | true => .ok (.tup (stepL xs l c)) h2
    | false => .no)
  | .ref k => (match decide (c = -1), l, h2.get k with
    | true, none, some (.lst xs) => .ok (.ref h2.n) (h2.push (.lst xs.reverse))
    | _, _, _ => .no)
  | _ => .no
section
variable {X : Cx} {g : Gl} {W : WX} {pos p3 : Pos} {e st : Expr} {lo : Option Expr} {f : FE} {fl : FO} {c : Int}
theorem ee_step (he : PE X e (rdE g W f)) (hl : PO X lo (rdO g W fl)) (hk : PO X (some st) (tPartC c)) (h0 : c ≠ 0 := by decide) (h1 : c ≠ 1 := by decide) : PE X (.Subscript e (.Slice lo none (some st) p3) pos) (rdE g W (fStep f fl c)) :=
  (pe_step he hl hk h0 h1).imp fun σ H Q ⟨ρ, s, h, rs, r, pp⟩ => rdE.seq (σ' := σ) rs r .refl pp fun v x ρ1 h1 H1 e1 r1 rx p1 => rdO.seq (σ := σ) (rs.mono e1) r1 e1 p1 fun l ρ2 h2 H2 e2 r2 p2 => by
    split at p2
    · rename_i xs
      split at p2
      · rename_i hz
        obtain ⟨a, ys, rfl, ha, rys⟩ := (rx.mono e2).tup'
        have rst := rys.step l c
        exact .inl ⟨a, ys, rfl, .of ha, by rw [← rst.length]; exact lenOk.le hz, p2.tup (e1.trans e2) r2 rst⟩
      · exact p2.elim
    · split at p2
      · rename_i xs e4 e6
        have e4 := of_decide_eq_true e4
        obtain ⟨_, rfl⟩ := (rx.mono e2).ref'
        obtain ⟨ys, hy, rys⟩ := r2.lst e6
        exact .inr ⟨e4, rfl, _, ys, rfl, .of hy, p2.lst (e1.trans e2) r2 rys.reverse⟩
      · exact p2.elim
    · exact p2.elim
end
end Ev

/-! zip whose pair is kept by a name: the next pair is a new tuple, whatever became of the last one -/
namespace Ev
open PySem PySem.Spec L2
open PyProof.Rows hiding St

abbrev ZG (h : Heap) (z TI TO : Addr) (g0 g1 : Value) : Prop := h.get? z = some { cls := .type "zip", dict := none, data := .fields #[g0, g1, .bool false, .ref TI, .ref TO], slots := #[] }
/-- the place of the last pair: none, or an address -/
def Last (v : Value) : Prop := v = .none ∨ ∃ a : Addr, v = rawInt a
section
variable {P : Program} {w : World} {A : Around} {E : Value → Shared → Prop} {s : Shared} {z TI TO i1 i2 : Addr} {fp1 fp2 : List Addr} {n1 n2 i : Nat} {P1 P2 : Nat → Value → Prop} {St1 St2 : Nat → Heap → Prop} {a1 a2 g0 g1 : Value}
theorem loadAlive {a : Addr} {Q : Option Obj → Shared → Prop} (h : Q (s.heap.get? a) s) : wpAny (model P w) A (loadIfAlive a) Q E s := fun Γ p hΓ => h
/-- is the last pair free? if not, that is noted -/
theorem free_or {Q : Bool → Shared → Prop} (hz : ZG s.heap z TI TO g0 g1) (hl : Last g0) (hf : Q true s) (hn : ∀ h', ZG h' z TI TO g0 (.bool true) → Heap.SameBut z s.heap h' → Q false { s with heap := h' }) : wpAny (model P w) A (Builtin.SmallTypes.ownedTupleIsFree (.ref z)) Q E s := by
  unfold Builtin.SmallTypes.ownedTupleIsFree; refine bnd (wpAny_field hz rfl (x := g0) rfl ?_)
  rcases hl with e | ⟨a, e⟩
  · subst e
    exact pur hf
  · subst e
    show wpAny _ _ (loadIfAlive (Int.toNat (a : Int)) >>= _) _ _ s
    refine bnd (loadAlive ?_)
    cases s.heap.get? (Int.toNat (a : Int)) with
    | none => exact pur hf
    | some o =>
      show wpAny _ _ (field (.ref z) 1 >>= _) _ _ s
      refine bnd (wpAny_field hz rfl (x := g1) rfl ?_)
      by_cases h1 : (g1 != .bool true) = true
      · rw [if_pos h1]
        refine bnd (wpAny_setField_rec hz (by simp) fun h' q sb => ?_)
        exact pur (hn h' q sb)
      · rw [if_neg h1]
        refine bnd (pur ?_)
        have e : g1 = .bool true := by simpa using h1
        subst e
        exact pur (hn s.heap hz (Heap.SameBut.refl _ _))
theorem zg_item {Q : Value → Shared → Prop} (S : ZipSep2 z TI TO i1 i2 fp1 fp2) (D1 : Draws P w A i1 fp1 n1 P1 St1) (D2 : Draws P w A i2 fp2 n2 P2 St2) (hz : ZG s.heap z TI TO g0 g1) (hl : Last g0) (kTI : IsTupOf2 s.heap TI (.ref i1) (.ref i2)) (kTO : IsTupOf2 s.heap TO a1 a2)
    (st1 : St1 i s.heap) (st2 : St2 i s.heap) (l1 : i < n1) (l2 : i < n2)
    (hQ : ∀ x1 x2 h' tk f0 f1 b1 b2, P1 i x1 → P2 i x2 → ZG h' z TI TO f0 f1 → Last f0 → IsTupOf2 h' TO b1 b2 → St1 (i + 1) h' → St2 (i + 1) h' → IsTupOf2 h' s.heap.objs.size x1 x2 →
      (∀ b o, b ≠ z → b ≠ TO → b ≠ i1 → b ≠ i2 → s.heap.get? b = some o → h'.get? b = some o) → Q (.ref s.heap.objs.size) { s with heap := h', toks := tk }) :
    wpAny (model P w) A (Builtin.«zip.__next__» ⟨[.ref z], []⟩) (fun fin s' => ∃ v, fin = .done (.ret v) ∧ Q v s') E s := by
  obtain ⟨hp, gn, dr, tk, os⟩ := s
  show wpAny _ _ (field (.ref z) 2 >>= _) _ _ _; refine bnd (wpAny_field hz rfl (x := .bool false) rfl ?_)
  show wpAny _ _ (field (.ref z) 3 >>= _) _ _ _; refine bnd (wpAny_field hz rfl (x := .ref TI) rfl (bnd (wpAny_seqItems kTI rfl ?_)))
  show wpAny _ _ (Builtin.SmallTypes.ownedTupleIsFree (.ref z) >>= _) _ _ _; refine bnd (free_or (s := ⟨hp, gn, dr, tk, os⟩) hz hl ?_ fun h0 hz0 sb0 => ?_)
  · -- the pair's place is filled anew
    rw [if_pos rfl]
    refine bnd (wpAny_rule (bnd (wpAny_field hz rfl (x := .ref TO) rfl (bnd (wpAny_setField_rec hz (by simp) fun m0 zz0 c0 => ?_)))))
    have y0 : ZG m0 z TI TO .ellipsis g1 := zz0
    have c0 : Heap.SameBut z hp m0 := c0
    refine bnd ?_
    simp only [List.zipIdx_cons, List.zipIdx_nil, List.forIn_cons, List.forIn_nil]; refine bnd (bnd (wpAny_onRaise ?_))
    show wpAny _ _ (Builtin.SmallTypes.nextOf (.ref i1) >>= _) _ _ ⟨m0, gn, dr, tk, os⟩
    refine bnd (D1.item i _ _ _ l1 (D1.over st1 c0 S.zf1) fun x1 m1 tk1 px1 sx1 c1 => pur ?_)
    have c1 : Heap.SameBut i1 m0 m1 := c1
    have u1 : IsTupOf2 m1 TO a1 a2 := c1.extBut _ _ S.Ti1 (c0.extBut _ _ S.TOz kTO)
    refine bnd (wpAny_seqItems (s := ⟨m1, gn, dr, tk1, os⟩) u1 rfl (bnd (updateSeq_IsTupOf2 (s := ⟨m1, gn, dr, tk1, os⟩) u1 fun m2 u2 c2 => ?_)))
    have u2 : IsTupOf2 m2 TO x1 a2 := u2
    have c2 : Heap.SameBut TO m1 m2 := c2
    refine bnd (wpAny_letGo (pur (bnd (bnd (wpAny_onRaise ?_)))))
    show wpAny _ _ (Builtin.SmallTypes.nextOf (.ref i2) >>= _) _ _ ⟨m2, gn, dr, tk1, os⟩
    refine bnd (D2.item i _ _ _ l2 (D2.over (D2.over (D2.over st2 c0 S.zf2) c1 S.sep1_2) c2 S.Tf2) fun x2 m3 tk2 px2 sx2 c3 => pur ?_)
    have c3 : Heap.SameBut i2 m2 m3 := c3
    have u3 : IsTupOf2 m3 TO x1 a2 := c3.extBut _ _ S.Ti2 u2
    refine bnd (wpAny_seqItems (s := ⟨m3, gn, dr, tk2, os⟩) u3 rfl (bnd (updateSeq_IsTupOf2 (s := ⟨m3, gn, dr, tk2, os⟩) u3 fun m4 u4 c4 => ?_)))
    have u4 : IsTupOf2 m4 TO x1 x2 := u4
    have c4 : Heap.SameBut TO m3 m4 := c4
    refine bnd (wpAny_letGo (pur (pur (bnd (wpAny_seqItems (s := ⟨m4, gn, dr, tk2, os⟩) u4 rfl (bnd (wpAny_newTuple ?_)))))))
    have sz : m4.objs.size = hp.objs.size := by rw [c4.1, c3.1, c2.1, c1.1, c0.1]
    have y4 : ZG m4 z TI TO .ellipsis g1 := c4.extBut _ _ S.TOz.symm (c3.extBut _ _ S.zi2 (c2.extBut _ _ S.TOz.symm (c1.extBut _ _ S.zi1 y0)))
    have old : ∀ c o, c ≠ z → c ≠ TO → c ≠ i1 → c ≠ i2 → hp.get? c = some o → m4.get? c = some o := fun c o k1 k2 k3 k4 e => c4.extBut _ _ k2 (c3.extBut _ _ k4 (c2.extBut _ _ k2 (c1.extBut _ _ k3 (c0.extBut _ _ k1 e))))
    have j1 : St1 (i + 1) m4 := D1.over (D1.over (D1.over sx1 c2 S.Tf1) c3 S.sep2_1) c4 S.Tf1
    have j2 : St2 (i + 1) m4 := D2.over sx2 c4 S.Tf2
    have zl : z < m4.objs.size := Heap.lt_size y4
    show wpAny _ _ (Builtin.SmallTypes.ownedTupleHandOut (.ref z) (.ref m4.objs.size) >>= _) _ _ ⟨m4.push { cls := .type "tuple", data := .seq #[x1, x2] }, gn, dr, tk2, os⟩
    refine bnd ?_
    unfold Builtin.SmallTypes.ownedTupleHandOut; have y5 : ZG (m4.push { cls := .type "tuple", data := .seq #[x1, x2] }) z TI TO .ellipsis g1 := Heap.get?_push_of_some _ y4
    refine bnd (wpAny_setField_rec y5 (by simp) fun m6 y6 c6 => ?_)
    have y6 : ZG m6 z TI TO (rawInt m4.objs.size) g1 := y6
    refine wpAny_setField_rec y6 (by simp) fun m7 y7 c7 => ?_
    have y7 : ZG m7 z TI TO (rawInt m4.objs.size) (.bool false) := y7
    have c6 : Heap.SameBut z (m4.push { cls := .type "tuple", data := .seq #[x1, x2] }) m6 := c6
    have c7 : Heap.SameBut z m6 m7 := c7
    have up : ∀ c o, c ≠ z → m4.get? c = some o → m7.get? c = some o := fun c o k e => c7.extBut _ _ k (c6.extBut _ _ k (Heap.get?_push_of_some _ e))
    have T7 : IsTupOf2 m7 m4.objs.size x1 x2 := c7.extBut _ _ (Nat.ne_of_gt zl) (c6.extBut _ _ (Nat.ne_of_gt zl) (Heap.get?_push_size _ rfl))
    rw [sz] at T7
    refine pur ⟨_, rfl, ?_⟩
    show Q (.ref m4.objs.size) ⟨m7, gn, dr, tk2, os⟩
    rw [sz]
    exact hQ x1 x2 m7 tk2 _ _ _ _ px1 px2 y7 (.inr ⟨_, rfl⟩) (up _ _ S.TOz u4) (D1.frame _ _ _ j1 fun b hb o e => up b o (fun q => S.zf1 (q ▸ hb)) e) (D2.frame _ _ _ j2 fun b hb o e => up b o (fun q => S.zf2 (q ▸ hb)) e) T7 fun c o k1 k2 k3 k4 e => up c o k1 (old c o k1 k2 k3 k4 e)
  · -- the last pair is held: a new one
    have sb0 : Heap.SameBut z hp h0 := sb0
    rw [if_neg Bool.false_ne_true]; refine bnd ?_
    show wpAny _ _ (forIn (#[Value.ref i1, .ref i2] : Array Value) _ _) _ _ ⟨h0, gn, dr, tk, os⟩
    rw [← Array.forIn_toList]
    simp only [List.forIn_cons, List.forIn_nil]; refine bnd (bnd (wpAny_holding ?_))
    show wpAny _ _ (Builtin.SmallTypes.nextOf (.ref i1) >>= _) _ _ ⟨h0, gn, dr, tk, os⟩
    refine bnd (D1.item i _ _ _ l1 (D1.over st1 sb0 S.zf1) fun x1 m1 tk1 px1 sx1 c1 => pur (pur ?_))
    have c1 : Heap.SameBut i1 h0 m1 := c1
    refine bnd (bnd (wpAny_holding ?_))
    show wpAny _ _ (Builtin.SmallTypes.nextOf (.ref i2) >>= _) _ _ ⟨m1, gn, dr, tk1, os⟩
    refine bnd (D2.item i _ _ _ l2 (D2.over (D2.over st2 sb0 S.zf2) c1 S.sep1_2) fun x2 m2 tk2 px2 sx2 c2 => pur (pur ?_))
    have c2 : Heap.SameBut i2 m1 m2 := c2
    refine pur ?_
    show wpAny _ _ (newTuple [x1, x2] >>= _) _ _ ⟨m2, gn, dr, tk2, os⟩
    refine bnd (wpAny_newTuple ?_)
    have sz : m2.objs.size = hp.objs.size := by rw [c2.1, c1.1, sb0.1]
    have y2 : ZG m2 z TI TO g0 (.bool true) := c2.extBut _ _ S.zi2 (c1.extBut _ _ S.zi1 hz0)
    have T2 : IsTupOf2 m2 TO a1 a2 := c2.extBut _ _ S.Ti2 (c1.extBut _ _ S.Ti1 (sb0.extBut _ _ S.TOz kTO))
    have j1 : St1 (i + 1) m2 := D1.over sx1 c2 S.sep2_1
    have up : ∀ c o, m2.get? c = some o → (m2.push { cls := .type "tuple", data := .seq #[x1, x2] }).get? c = some o := fun c o e => Heap.get?_push_of_some _ e
    refine pur ⟨_, rfl, ?_⟩
    show Q (.ref m2.objs.size) ⟨m2.push { cls := .type "tuple", data := .seq #[x1, x2] }, gn, dr, tk2, os⟩
    have T3 : IsTupOf2 (m2.push { cls := .type "tuple", data := .seq #[x1, x2] }) m2.objs.size x1 x2 := Heap.get?_push_size _ rfl
    rw [sz] at T3 ⊢
    exact hQ x1 x2 _ tk2 _ _ _ _ px1 px2 (up _ _ y2) hl (up _ _ T2) (D1.frame _ _ _ j1 fun b hb o e => up b o e) (D2.frame _ _ _ sx2 fun b hb o e => up b o e) T3 fun c o k1 k2 k3 k4 e => up c o (c2.extBut _ _ k4 (c1.extBut _ _ k3 (sb0.extBut _ _ k1 e)))
theorem zg_end {Q : Fin → Shared → Prop} (S : ZipSep2 z TI TO i1 i2 fp1 fp2) (D1 : Draws P w A i1 fp1 n1 P1 St1) (D2 : Draws P w A i2 fp2 n2 P2 St2) (hz : ZG s.heap z TI TO g0 g1) (hl : Last g0) (kTI : IsTupOf2 s.heap TI (.ref i1) (.ref i2)) (kTO : IsTupOf2 s.heap TO a1 a2)
    (st1 : St1 i s.heap) (st2 : St2 i s.heap) (l1 : i ≤ n1) (l2 : i ≤ n2) (hend : i = n1 ∨ i = n2)
    (hE : ∀ h' tk e, (∀ b o, b ≠ z → b ≠ TO → b ≠ i1 → b ≠ i2 → s.heap.get? b = some o → h'.get? b = some o) → (∃ o, h'.get? e = some o ∧ o.cls = .type "StopIteration") → E (.ref e) { s with heap := h', toks := tk }) :
    wpAny (model P w) A (Builtin.«zip.__next__» ⟨[.ref z], []⟩) Q E s := by
  obtain ⟨hp, gn, dr, tk, os⟩ := s
  show wpAny _ _ (field (.ref z) 2 >>= _) _ _ _; refine bnd (wpAny_field hz rfl (x := .bool false) rfl ?_)
  show wpAny _ _ (field (.ref z) 3 >>= _) _ _ _; refine bnd (wpAny_field hz rfl (x := .ref TI) rfl (bnd (wpAny_seqItems kTI rfl ?_)))
  show wpAny _ _ (Builtin.SmallTypes.ownedTupleIsFree (.ref z) >>= _) _ _ _; refine bnd (free_or (s := ⟨hp, gn, dr, tk, os⟩) hz hl ?_ fun h0 hz0 sb0 => ?_)
  · rw [if_pos rfl]
    refine bnd (wpAny_rule (bnd (wpAny_field hz rfl (x := .ref TO) rfl (bnd (wpAny_setField_rec hz (by simp) fun m0 zz0 c0 => ?_)))))
    have y0 : ZG m0 z TI TO .ellipsis g1 := zz0
    have c0 : Heap.SameBut z hp m0 := c0
    refine bnd ?_
    simp only [List.zipIdx_cons, List.zipIdx_nil, List.forIn_cons, List.forIn_nil]; refine bnd (bnd (wpAny_onRaise ?_))
    show wpAny _ _ (Builtin.SmallTypes.nextOf (.ref i1) >>= _) _ _ ⟨m0, gn, dr, tk, os⟩
    by_cases lt : i < n1
    · refine bnd (D1.item i _ _ _ lt (D1.over st1 c0 S.zf1) fun x1 m1 tk1 px1 sx1 c1 => pur ?_)
      have c1 : Heap.SameBut i1 m0 m1 := c1
      have u1 : IsTupOf2 m1 TO a1 a2 := c1.extBut _ _ S.Ti1 (c0.extBut _ _ S.TOz kTO)
      refine bnd (wpAny_seqItems (s := ⟨m1, gn, dr, tk1, os⟩) u1 rfl (bnd (updateSeq_IsTupOf2 (s := ⟨m1, gn, dr, tk1, os⟩) u1 fun m2 u2 c2 => ?_)))
      have c2 : Heap.SameBut TO m1 m2 := c2
      have e2 : i = n2 := by omega
      refine bnd (wpAny_letGo (pur (bnd (bnd (wpAny_onRaise ?_)))))
      show wpAny _ _ (Builtin.SmallTypes.nextOf (.ref i2) >>= _) _ _ ⟨m2, gn, dr, tk1, os⟩
      refine bnd (D2.done ⟨m2, gn, dr, tk1, os⟩ _ _ (by rw [← e2]; exact D2.over (D2.over (D2.over st2 c0 S.zf2) c1 S.sep1_2) c2 S.Tf2) fun q e hq he => ?_)
      have hq : Heap.ExtBut i2 m2 q := hq
      obtain ⟨oe, ge, ke⟩ := he
      have ge : q.get? e = some oe := ge
      have zq : ZG q z TI TO .ellipsis g1 := hq _ _ S.zi2 (c2.extBut _ _ S.TOz.symm (c1.extBut _ _ S.zi1 y0))
      have ne : e ≠ z := fun x => by subst x; rw [zq] at ge; cases ge; simp at ke
      refine wpAny_setField_rec (s := ⟨q, gn, dr, tk1, os⟩) zq (by simp) fun q' _ hq' => ?_
      have hq' : Heap.SameBut z q q' := hq'
      exact hE q' tk1 e (fun c o k1 k2 k3 k4 x => hq'.extBut _ _ k1 (hq _ _ k4 (c2.extBut _ _ k2 (c1.extBut _ _ k3 (c0.extBut _ _ k1 x))))) ⟨oe, hq'.extBut _ _ ne ge, ke⟩
    · have e1 : i = n1 := by omega
      refine bnd (D1.done ⟨m0, gn, dr, tk, os⟩ _ _ (by rw [← e1]; exact D1.over st1 c0 S.zf1) fun q e hq he => ?_)
      have hq : Heap.ExtBut i1 m0 q := hq
      obtain ⟨oe, ge, ke⟩ := he
      have ge : q.get? e = some oe := ge
      have zq : ZG q z TI TO .ellipsis g1 := hq _ _ S.zi1 y0
      have ne : e ≠ z := fun x => by subst x; rw [zq] at ge; cases ge; simp at ke
      refine wpAny_setField_rec (s := ⟨q, gn, dr, tk, os⟩) zq (by simp) fun q' _ hq' => ?_
      have hq' : Heap.SameBut z q q' := hq'
      exact hE q' tk e (fun c o k1 k2 k3 k4 x => hq'.extBut _ _ k1 (hq _ _ k3 (c0.extBut _ _ k1 x))) ⟨oe, hq'.extBut _ _ ne ge, ke⟩
  · have sb0 : Heap.SameBut z hp h0 := sb0
    rw [if_neg Bool.false_ne_true]; refine bnd ?_
    show wpAny _ _ (forIn (#[Value.ref i1, .ref i2] : Array Value) _ _) _ _ ⟨h0, gn, dr, tk, os⟩
    rw [← Array.forIn_toList]
    simp only [List.forIn_cons, List.forIn_nil]; refine bnd (bnd (wpAny_holding ?_))
    show wpAny _ _ (Builtin.SmallTypes.nextOf (.ref i1) >>= _) _ _ ⟨h0, gn, dr, tk, os⟩
    by_cases lt : i < n1
    · refine bnd (D1.item i _ _ _ lt (D1.over st1 sb0 S.zf1) fun x1 m1 tk1 px1 sx1 c1 => pur (pur ?_))
      have c1 : Heap.SameBut i1 h0 m1 := c1
      have e2 : i = n2 := by omega
      refine bnd (bnd (wpAny_holding ?_))
      show wpAny _ _ (Builtin.SmallTypes.nextOf (.ref i2) >>= _) _ _ ⟨m1, gn, dr, tk1, os⟩
      refine bnd (D2.done ⟨m1, gn, dr, tk1, os⟩ _ _ (by rw [← e2]; exact D2.over (D2.over st2 sb0 S.zf2) c1 S.sep1_2) fun q e hq he => ?_)
      have hq : Heap.ExtBut i2 m1 q := hq
      exact hE q tk1 e (fun c o k1 k2 k3 k4 x => hq _ _ k4 (c1.extBut _ _ k3 (sb0.extBut _ _ k1 x))) he
    · have e1 : i = n1 := by omega
      refine bnd (D1.done ⟨h0, gn, dr, tk, os⟩ _ _ (by rw [← e1]; exact D1.over st1 sb0 S.zf1) fun q e hq he => ?_)
      have hq : Heap.ExtBut i1 h0 q := hq
      exact hE q tk e (fun c o k1 k2 k3 k4 x => hq _ _ k3 (sb0.extBut _ _ k1 x)) he
end
end Ev

namespace Ev
open PySem PySem.Spec L2
open PyProof.Rows hiding St

section
variable {P : Program} {w : World} {A : Around} {E : Value → Shared → Prop} {s : Shared} {z TI TO i1 i2 : Addr} {fp1 fp2 : List Addr} {n1 n2 i : Nat} {P1 P2 : Nat → Value → Prop} {St1 St2 : Nat → Heap → Prop} {a1 a2 g0 g1 : Value}
theorem zg_next {Q : Option Value → Shared → Prop} (S : ZipSep2 z TI TO i1 i2 fp1 fp2) (D1 : Draws P w A.in1 i1 fp1 n1 P1 St1) (D2 : Draws P w A.in1 i2 fp2 n2 P2 St2) (hz : ZG s.heap z TI TO g0 g1) (hl : Last g0) (kTI : IsTupOf2 s.heap TI (.ref i1) (.ref i2)) (kTO : IsTupOf2 s.heap TO a1 a2)
    (st1 : St1 i s.heap) (st2 : St2 i s.heap) (l1 : i < n1) (l2 : i < n2)
    (hQ : ∀ x1 x2 h' tk f0 f1 b1 b2, P1 i x1 → P2 i x2 → ZG h' z TI TO f0 f1 → Last f0 → IsTupOf2 h' TO b1 b2 → St1 (i + 1) h' → St2 (i + 1) h' → IsTupOf2 h' s.heap.objs.size x1 x2 →
      (∀ b o, b ≠ z → b ≠ TO → b ≠ i1 → b ≠ i2 → s.heap.get? b = some o → h'.get? b = some o) → Q (some (.ref s.heap.objs.size)) { s with heap := h', toks := tk }) : wpAny (model P w) A (pyNext (.ref z)) Q E s := by
  have tz : s.TypeIs (.ref z) "zip" := ⟨_, hz, rfl⟩
  unfold pyNext
  exact bnd (wpAny_attempt (wpAny_callSpecial?_slot (name := Str.ofString "__next__") tz F.slot_zip_next (wpAny_call_entry F.slot_zip_next tz F.entry_zip_next
    (zg_item S D1 D2 hz hl kTI kTO st1 st2 l1 l2 fun x1 x2 h' tk f0 f1 b1 b2 q1 q2 q3 q4 q5 q6 q7 q8 q9 => pur (hQ x1 x2 h' tk f0 f1 b1 b2 q1 q2 q3 q4 q5 q6 q7 q8 q9)) (F.args_zip_next_1 _))))
theorem zg_stop {Q : Option Value → Shared → Prop} (S : ZipSep2 z TI TO i1 i2 fp1 fp2) (D1 : Draws P w A.in1 i1 fp1 n1 P1 St1) (D2 : Draws P w A.in1 i2 fp2 n2 P2 St2) (hz : ZG s.heap z TI TO g0 g1) (hl : Last g0) (kTI : IsTupOf2 s.heap TI (.ref i1) (.ref i2)) (kTO : IsTupOf2 s.heap TO a1 a2)
    (st1 : St1 i s.heap) (st2 : St2 i s.heap) (l1 : i ≤ n1) (l2 : i ≤ n2) (hend : i = n1 ∨ i = n2)
    (hQ : ∀ h' tk, (∀ b o, b ≠ z → b ≠ TO → b ≠ i1 → b ≠ i2 → s.heap.get? b = some o → h'.get? b = some o) → Q none { s with heap := h', toks := tk }) : wpAny (model P w) A (pyNext (.ref z)) Q E s := by
  have tz : s.TypeIs (.ref z) "zip" := ⟨_, hz, rfl⟩
  unfold pyNext
  refine bnd (wpAny_attempt (wpAny_callSpecial?_slot (name := Str.ofString "__next__") tz F.slot_zip_next (wpAny_call_entry F.slot_zip_next tz F.entry_zip_next
    (zg_end S D1 D2 hz hl kTI kTO st1 st2 l1 l2 hend fun h' tk e kp he => ?_) (F.args_zip_next_1 _))))
  obtain ⟨o, ho, hc⟩ := he
  exact bnd (wpAny_isInstance (T := "StopIteration") (b := true) ⟨o, ho, hc⟩ isSubtype_stop (pur (hQ _ _ kp)))
theorem zg_self {Q : Value → Shared → Prop} (hz : ZG s.heap z TI TO g0 g1) (h : Q (.ref z) s) : wpAny (model P w) A (pyIter (.ref z)) Q E s := by
  have tz : s.TypeIs (.ref z) "zip" := ⟨_, hz, rfl⟩
  refine wpAny_pyIter_slot tz F.slot_zip_iter (wpAny_call_entry F.slot_zip_iter tz F.entry_zip_iter ?_ (F.args_zip_iter_1 _))
  exact pur ⟨_, rfl, "zip", _, tz, F.slot_zip_next.lookup, h⟩
end
theorem mem5 {c z TI TO i1 i2 : Addr} (h : c ∈ [z, TI, TO, i1, i2]) : c = z ∨ c = TI ∨ c = TO ∨ c = i1 ∨ c = i2 := by simpa using h
theorem turn_zipN {P : Program} {w : World} {K : PySem.W.Frag} {tg : Expr} (hgo : ∀ it v, letOwnedTupleGo tg it v = pure ()) {a b z TI TO i1 i2 : Addr} {ka kb : Bool} (S : ZipSep2 z TI TO i1 i2 [i1, a] [i2, b]) :
    Turn P w K tg (Itz2 K ka kb a b) [z, TI, TO, i1, i2] z (fun i h => (∃ f0 f1, ZG h z TI TO f0 f1 ∧ Last f0) ∧ IsTupOf2 h TI (.ref i1) (.ref i2) ∧ (∃ x y, IsTupOf2 h TO x y) ∧ IsIt ka h i1 a i ∧ IsIt kb h i2 b i) where
  mem := List.mem_cons_self ..
  obj := fun i h ⟨⟨f0, f1, cz, _⟩, cI, ⟨x, y, cO⟩, h1, h2⟩ c hc => by
    rcases mem5 hc with q | q | q | q | q
    · rw [q]; exact ⟨_, cz, fun v q => nomatch q⟩
    · rw [q]; exact ⟨_, cI, fun v q => nomatch q⟩
    · rw [q]; exact ⟨_, cO, fun v q => nomatch q⟩
    · rw [q]; exact h1.obj
    · rw [q]; exact h2.obj
  keep := fun i h h' ⟨⟨f0, f1, cz, hl⟩, cI, ⟨x, y, cO⟩, h1, h2⟩ k => ⟨⟨f0, f1, k z (by simp) _ cz, hl⟩, k TI (by simp) _ cI, ⟨x, y, k TO (by simp) _ cO⟩, h1.at' fun o q => k i1 (by simp) o q, h2.at' fun o q => k i2 (by simp) o q⟩
  item := by
    intro X eP eW eK hc i pl s σ H E I ok ⟨⟨f0, f1, cz, hl⟩, cI, ⟨o1, o2, cO⟩, h1, h2⟩ ⟨as_, ys, x, y, qa, qb, gx, gy⟩
    subst eP eW eK
    obtain ⟨im, vs1, p⟩ := sq_get I qa
    obtain ⟨im2, vs2, p2⟩ := sq_get I qb
    obtain ⟨u, gu, vu⟩ := vs1.get gx
    obtain ⟨u2, gu2, vu2⟩ := vs2.get gy
    have hh : X.A.in1.handled = none := I.ok.hd hc
    refine zg_next (a1 := o1) (a2 := o2) S (draws_sq hh ka i1 a (p.apart h1) im.toArray) (draws_sq hh kb i2 b (p2.apart h2) im2.toArray) cz hl cI cO ⟨h1, p⟩ ⟨h2, p2⟩ (by have := (List.getElem?_eq_some_iff.mp gu).1; simpa using this) (by have := (List.getElem?_eq_some_iff.mp gu2).1; simpa using this)
      fun x1 x2 h' tk k0 k1 b1 b2 px1 px2 zz ll TT st1 st2 tz kp => ?_
    have ex1 : x1 = u := by simp only [List.getElem?_toArray] at px1; rw [gu] at px1; cases px1; rfl
    have ex2 : x2 = u2 := by simp only [List.getElem?_toArray] at px2; rw [gu2] at px2; cases px2; rfl
    subst ex1 ex2
    refine ⟨_, rfl, ?_⟩
    rw [hgo]
    have nob : ObjOk X.prog X.w (upd H s.heap.objs.size (.tup [x, y])) h' s.heap.objs.size (.tup [x, y]) :=
      ⟨by show 2 ≤ sizeLine; decide, [x1, x2], .cons vu (.cons vu2 .nil), ⟨_, tz, rfl, _, rfl⟩⟩
    have J : Inv X pl σ (upd H s.heap.objs.size (.tup [x, y])) { s with heap := h', toks := tk } :=
      I.turnedNew (t' := tk) (ch := [z, TI, TO, i1, i2]) (fun c o hb q => kp c o (fun q' => hb (by simp [q'])) (fun q' => hb (by simp [q'])) (fun q' => hb (by simp [q'])) (fun q' => hb (by simp [q'])) q) ok (Nat.le_refl _) nob
    refine pur ⟨.ref s.heap.objs.size, _, J, rfl, ⟨_, x, y, rfl, I.hok.fresh (Nat.le_refl _), rfl, fun l hl => by rw [sq_inj I hl qa]; exact gx, fun l hl => by rw [sq_inj I hl qb]; exact gy⟩, ⟨⟨k0, k1, zz, ll⟩, kp _ _ S.TIz S.TITO S.TIi1 S.TIi2 cI, ⟨b1, b2, TT⟩, st1.1, st2.1⟩, fun c hcm => ?_⟩
    have blw : c < s.heap.objs.size := by
      rcases mem5 hcm with q | q | q | q | q
      · rw [q]; exact Heap.lt_size cz
      · rw [q]; exact Heap.lt_size cI
      · rw [q]; exact Heap.lt_size cO
      · rw [q]; obtain ⟨_, e1, _⟩ := h1.obj; exact Heap.lt_size e1
      · rw [q]; obtain ⟨_, e2, _⟩ := h2.obj; exact Heap.lt_size e2
    rw [upd_ne (Nat.ne_of_lt blw)]
    exact (ok c hcm).1
  done := by
    intro X eP eW eK hc i pl s σ H E I ok ⟨⟨f0, f1, cz, hl⟩, cI, ⟨o1, o2, cO⟩, h1, h2⟩ ⟨as_, ys, qa, qb, l1, l2, hend⟩
    subst eP eW eK
    obtain ⟨im, vs1, p⟩ := sq_get I qa
    obtain ⟨im2, vs2, p2⟩ := sq_get I qb
    have e1 := vs1.length
    have e2 := vs2.length
    have hh : X.A.in1.handled = none := I.ok.hd hc
    exact zg_stop (a1 := o1) (a2 := o2) S (draws_sq hh ka i1 a (p.apart h1) im.toArray) (draws_sq hh kb i2 b (p2.apart h2) im2.toArray) cz hl cI cO ⟨h1, p⟩ ⟨h2, p2⟩ (by simp; omega) (by simp; omega) (by simp; omega)
      fun h' tk kp => ⟨rfl, I.turnedL (t' := tk) (ch := [z, TI, TO, i1, i2]) (fun c o hb q => kp c o (fun q' => hb (by simp [q'])) (fun q' => hb (by simp [q'])) (fun q' => hb (by simp [q'])) (fun q' => hb (by simp [q'])) q) ok⟩
  self := fun A i s Q E ⟨⟨f0, f1, cz, _⟩, _⟩ h => zg_self cz h
section
variable {X : Cx} {g : Gl} {W : WX} {tg e e2 : Expr} {fs : FA} {p pos : Pos}
theorem pi_zipN {ta : TA} (hgo : ∀ it v, letOwnedTupleGo tg it v = pure ()) (hg : L2.Gl X "zip") (hm : X.mg "zip" = none) (ha : PA X [e, e2] ta) (hs : starEach [e, e2] X.env = (false, eval e X.env) :: starEach [e2] X.env := by rfl) (hpl : (backTo pos (starEach [e2] X.env)).any (·.1) = false := by rfl) :
    PI X tg (.Call (.Name "zip" p) [e, e2] [] pos) (fun σ H R => ta σ H fun vs HB => ∃ ka kb a b xs ys, vs = [.ref a, .ref b] ∧ Sq X.K ka HB a xs ∧ Sq X.K kb HB b ys ∧ R (Itz2 X.K ka kb a b) HB) := by
  refine ⟨fun pl s σ H R I h => ?_⟩
  refine Call_ (ld_blt I hg hm PyProof.Rows.boot_zip (PyProof.Rows.callWith_type1 (thn (ha.run pos pl s σ H _ I h) fun ws sB ⟨vs, HB, IB, rB, ka, kb, a, b, xs, ys, ex, qa, qb, q⟩ => ?_) hs hpl))
  subst ex
  cases rB with
  | cons r rr =>
    cases rr with
    | cons r' rr =>
      cases rr
      cases r
      cases r'
      have ok5 : ∀ c, c ∈ [sB.heap.objs.size + 4, sB.heap.objs.size + 2, sB.heap.objs.size + 3, sB.heap.objs.size, sB.heap.objs.size + 1] → FpOk X pl HB c := fun c hcm => by
        have abv : sB.heap.objs.size ≤ c := by
          rcases mem5 hcm with z | z | z | z | z <;> rw [z] <;> first | exact Nat.le_add_right _ _ | exact Nat.le_refl _
        exact IB.fpOk abv (IB.hok.fresh abv)
      obtain ⟨im, vs1, p1⟩ := sq_get IB qa
      obtain ⟨im2, vs2, p2⟩ := sq_get IB qb
      refine zip_begins2 (begins_sq ka a im.toArray) (begins_sq kb b im2.toArray) p1 p2 fun h' cz cI cO g1 g2 szs kp => wpAny_pyIter_zip cz ?_
      have I2 : Inv X pl σ HB { sB with heap := h' } := IB.kept (t' := sB.toks) kp
      exact ⟨sB.heap.objs.size + 4, [sB.heap.objs.size + 4, sB.heap.objs.size + 2, sB.heap.objs.size + 3, sB.heap.objs.size, sB.heap.objs.size + 1], _, _, HB, rfl, I2,
        turn_zipN hgo (ka := ka) (kb := kb) (zip_sep2 (fun c hc => by have := List.mem_singleton.mp hc; subst this; exact p1.lt) (fun c hc => by have := List.mem_singleton.mp hc; subst this; exact p2.lt)), ⟨⟨_, _, cz, .inl rfl⟩, cI, ⟨_, _, cO⟩, is_it0 g1, is_it0 g2⟩, ok5, q⟩
theorem ei_zipN (hgo : ∀ it v, letOwnedTupleGo tg it v = pure ()) (hg : L2.Gl X "zip") (hm : X.mg "zip" = none) (ha : PA X [e, e2] (rdA g W fs)) (hs : starEach [e, e2] X.env = (false, eval e X.env) :: starEach [e2] X.env := by rfl) (hpl : (backTo pos (starEach [e2] X.env)).any (·.1) = false := by rfl) :
    PI X tg (.Call (.Name "zip" p) [e, e2] [] pos) (rdI g W (iZipA2 fs)) :=
  (pi_zipN hgo hg hm ha hs hpl).imp fun σ H R ⟨ρ, s, h, rs, r, p⟩ => rdA.seq rs r .refl p fun vs xs ρ1 h1 H1 e1 r1 rx p1 => by
    split at p1
    · split at p1
      · rename_i j k hj hk
        obtain ⟨y, y', rfl, ry, ry'⟩ := rx.two
        obtain ⟨b, a, ys, rfl, sj, sq⟩ := seqJ_ok (K := X.K) r1 ry hj
        obtain ⟨b', a', ys', rfl, sj', sq'⟩ := seqJ_ok (K := X.K) r1 ry' hk
        exact ⟨b, b', a, a', ys, ys', rfl, sq, sq', p1.now e1 r1 _ (rj_zip sj sj')⟩
      · exact p1.elim
    · exact p1.elim
end
/-! ### shifts, bits -/
def gShl : G2 := fun v w h => match v, w with
  | .int i, .int j => match decide (0 ≤ j) && (decide (j ≤ 1000) && Nat.blt i.natAbs 18446744073709551616) with
    | true => .ok (.int (i * 2 ^ j.toNat)) h
    | false => .no
  | _, _ => .no
theorem bo_shl {g : Gl} : BinOk g (rI CPow fun i j => V.int (i * 2 ^ j.toNat)) gShl := by
  intro W ρ ρc n H Hc h σ Q v w x y e r rx ry p
  unfold gShl at p
  split at p
  · split at p
    · rename_i i j hk
      cases rx.int'; cases ry.int'
      simp only [Bool.and_eq_true, decide_eq_true_eq] at hk
      refine ⟨_, _, rfl, rfl, ⟨hk.1, by omega, ?_⟩, p.now e r _ rv_int⟩
      have := Nat.blt_eq.mp hk.2.2
      omega
    · exact p.elim
  · exact p.elim
def gShr : G2 := fun v w h => match v, w with
  | .int i, .int j => match decide (0 ≤ j) with
    | true => .ok (.int (i / 2 ^ j.toNat)) h
    | false => .no
  | _, _ => .no
theorem bo_shr {g : Gl} : BinOk g (rI (fun _ j => 0 ≤ j) fun i j => V.int (i / 2 ^ j.toNat)) gShr := by
  intro W ρ ρc n H Hc h σ Q v w x y e r rx ry p
  unfold gShr at p
  split at p
  · split at p
    · rename_i i j hk
      cases rx.int'; cases ry.int'
      exact ⟨_, _, rfl, rfl, of_decide_eq_true hk, p.now e r _ rv_int⟩
    · exact p.elim
  · exact p.elim
def gBit (f : Int → Int → Int) : G2 := fun v w h => match v, w with
  | .int i, .int j => .ok (.int (f i j)) h
  | _, _ => .no
theorem bo_bit {g : Gl} {f : Int → Int → Int} : BinOk g (rI0 fun i j => V.int (f i j)) (gBit f) := by
  intro W ρ ρc n H Hc h σ Q v w x y e r rx ry p
  unfold gBit at p
  split at p
  · cases rx.int'; cases ry.int'
    exact ⟨_, _, rfl, rfl, p.now e r _ rv_int⟩
  · exact p.elim
/-! ### text constants, room -/
section
variable {X : Cx} {g : Gl} {W : WX} {pos : Pos}
theorem ee_gstr {x : Str} {z : Str} (hg : L2.Gl X x) (hm : ∃ t, X.mg x = some (.str z t)) (hdb : (x == ("__debug__" : Str)) = false := by decide) : PE X (.Name x pos) (rdE g W (fCon (.str z))) := by
  obtain ⟨t, hm⟩ := hm
  exact ee_glob (v := .str z) hg hm ⟨t, rfl⟩ (fun _ _ _ => rv_str) hdb
theorem room_d {k : Nat} {A : Around} (hr : Room k A) : A.units + 9 < cLine := by
  have := hr.un
  omega
theorem room_dd {k : Nat} {A : Around} (hr : Room k A) : A.units + 12 < cLine := by
  have := hr.un
  omega
end
/-! ### len of anything -/
def cLenD : GL := fun vs h => match vs with
  | [v] => (match isD v h with
    | true => (match v with
      | .ref k => (match h.get k with
        | some (.dct _ kvs) => .ok (.int kvs.length) h
        | _ => .no)
      | _ => .no)
    | false => byRef lLen cLen vs h)
  | _ => .no
theorem cr_lend {X : Cx} : CallR X (.builtin "len") (fun xs H Q => rLenA X.K xs H Q ∨ rDLen X.w xs H Q) := cr_len.or cr_dlen
theorem co_lend {g : Gl} {K : PySem.W.Frag} {w : World} (hw : w = g.w) : CallOk g (fun xs H Q => rLenA K xs H Q ∨ rDLen w xs H Q) cLenD := by
  subst hw
  intro W ρ ρc n H Hc h σ Q vs xs e r rx p
  unfold cLenD at p
  split at p
  · rename_i v
    split at p
    · split at p
      · rename_i k
        split at p
        · rename_i fz kvs hk
          obtain ⟨y, rfl, ry⟩ := rx.one
          obtain ⟨_, rfl⟩ := ry.ref'
          obtain ⟨us, d1, d2⟩ := r.dct hk
          obtain ⟨b, hb⟩ := d1.uni
          refine .inr ⟨_, fz, b, us, rfl, d1.dv d2 fun x m => (hb x m).1, ?_⟩
          rw [← Paired.length d1.rel]
          exact p.now e r _ rv_int
        · exact p.elim
      · exact p.elim
    · exact .inl (co_len e r rx p)
  · exact p.elim
end Ev

/-! enumerate(zip(a, b)) -/
namespace Ev
open PySem PySem.Spec L2
open PyProof.Rows hiding St
section
variable {P : Program} {w : World} {A : Around} {E : Value → Shared → Prop} {s : Shared} {z TI TO i1 i2 : Addr} {fp1 fp2 : List Addr} {n1 n2 i : Nat} {P1 P2 : Nat → Value → Prop} {St1 St2 : Nat → Heap → Prop} {a1 a2 g0 g1 : Value}
theorem zg_nof {Q : Value → Shared → Prop} (S : ZipSep2 z TI TO i1 i2 fp1 fp2) (D1 : Draws P w A.in1 i1 fp1 n1 P1 St1) (D2 : Draws P w A.in1 i2 fp2 n2 P2 St2) (hz : ZG s.heap z TI TO g0 g1) (hl : Last g0) (kTI : IsTupOf2 s.heap TI (.ref i1) (.ref i2)) (kTO : IsTupOf2 s.heap TO a1 a2)
    (st1 : St1 i s.heap) (st2 : St2 i s.heap) (l1 : i < n1) (l2 : i < n2)
    (hQ : ∀ x1 x2 h' tk f0 f1 b1 b2, P1 i x1 → P2 i x2 → ZG h' z TI TO f0 f1 → Last f0 → IsTupOf2 h' TO b1 b2 → St1 (i + 1) h' → St2 (i + 1) h' → IsTupOf2 h' s.heap.objs.size x1 x2 →
      (∀ b o, b ≠ z → b ≠ TO → b ≠ i1 → b ≠ i2 → s.heap.get? b = some o → h'.get? b = some o) → Q (.ref s.heap.objs.size) { s with heap := h', toks := tk }) : wpAny (model P w) A (Builtin.SmallTypes.nextOf (.ref z)) Q E s := by
  have tz : s.TypeIs (.ref z) "zip" := ⟨_, hz, rfl⟩
  unfold Builtin.SmallTypes.nextOf; exact bnd (wpAny_callSpecial?_slot (name := Str.ofString "__next__") tz F.slot_zip_next (wpAny_call_entry F.slot_zip_next tz F.entry_zip_next
    (zg_item S D1 D2 hz hl kTI kTO st1 st2 l1 l2 fun x1 x2 h' tk f0 f1 b1 b2 q1 q2 q3 q4 q5 q6 q7 q8 q9 => pur (hQ x1 x2 h' tk f0 f1 b1 b2 q1 q2 q3 q4 q5 q6 q7 q8 q9)) (F.args_zip_next_1 _)))
theorem zg_nofe {Q : Value → Shared → Prop} (S : ZipSep2 z TI TO i1 i2 fp1 fp2) (D1 : Draws P w A.in1 i1 fp1 n1 P1 St1) (D2 : Draws P w A.in1 i2 fp2 n2 P2 St2) (hz : ZG s.heap z TI TO g0 g1) (hl : Last g0) (kTI : IsTupOf2 s.heap TI (.ref i1) (.ref i2)) (kTO : IsTupOf2 s.heap TO a1 a2)
    (st1 : St1 i s.heap) (st2 : St2 i s.heap) (l1 : i ≤ n1) (l2 : i ≤ n2) (hend : i = n1 ∨ i = n2)
    (hE : ∀ h' tk e, (∀ b o, b ≠ z → b ≠ TO → b ≠ i1 → b ≠ i2 → s.heap.get? b = some o → h'.get? b = some o) → (∃ o, h'.get? e = some o ∧ o.cls = .type "StopIteration") → E (.ref e) { s with heap := h', toks := tk }) : wpAny (model P w) A (Builtin.SmallTypes.nextOf (.ref z)) Q E s := by
  have tz : s.TypeIs (.ref z) "zip" := ⟨_, hz, rfl⟩
  unfold Builtin.SmallTypes.nextOf; exact bnd (wpAny_callSpecial?_slot (name := Str.ofString "__next__") tz F.slot_zip_next (wpAny_call_entry F.slot_zip_next tz F.entry_zip_next
    (zg_end S D1 D2 hz hl kTI kTO st1 st2 l1 l2 hend hE) (F.args_zip_next_1 _)))
/-- enumerate over an iterator told by one rule -/
theorem en_item {e it : Addr} {c : Int} {old : Value} {R : Value → Heap → Prop} {Q : Value → Shared → Prop} (he : IsEnum s.heap e it c old)
    (item : ∀ {Q' : Value → Shared → Prop}, (∀ x m tk, R x m → IsEnum m e it c old → Q' x { s with heap := m, toks := tk }) → wpAny (model P w) A (Builtin.SmallTypes.nextOf (.ref it)) Q' E s)
    (hQ : ∀ x m h' tk, R x m → IsEnumOut h' e it (c + 1) x m.objs.size → h'.get? m.objs.size = some { cls := .type "tuple", data := .seq #[.int c tk, x] } →
      (∀ b o, b ≠ e → m.get? b = some o → h'.get? b = some o) → Q (.ref m.objs.size) { s with heap := h', toks := tk + 1 }) :
    wpAny (model P w) A (Builtin.«enumerate.__next__» ⟨[.ref e], []⟩) (fun fin s' => ∃ v, fin = .done (.ret v) ∧ Q v s') E s := by
  obtain ⟨hp, gn, dr, tk₀, os⟩ := s
  show wpAny _ _ (field (.ref e) 2 >>= _) _ _ _; refine bnd (wpAny_field he rfl (x := .ref it) rfl (bnd (item fun x m tk hR he1 => ?_)))
  have he1 : IsEnum m e it c old := he1
  show wpAny _ _ (field (.ref e) 3 >>= _) _ _ ⟨m, gn, dr, tk, os⟩
  refine bnd (wpAny_field he1 rfl (x := rawInt c) rfl ?_)
  show wpAny _ _ (field (.ref e) 4 >>= _) _ _ ⟨m, gn, dr, tk, os⟩
  refine bnd (wpAny_field he1 rfl (x := .none) rfl ?_)
  show wpAny _ _ (mkInt c >>= _) _ _ ⟨m, gn, dr, tk, os⟩
  refine bnd (wpAny_mkInt ?_)
  show wpAny _ _ (setField (.ref e) 3 (rawInt (c + 1)) >>= _) _ _ ⟨m, gn, dr, tk + 1, os⟩
  refine bnd (wpAny_setField_rec he1 (by simp) fun m2 he2 sb2 => ?_)
  have sb2 : Heap.SameBut e m m2 := sb2
  have he2 : IsEnum m2 e it (c + 1) old := he2
  show wpAny _ _ (setField (.ref e) 4 .none >>= _) _ _ ⟨m2, gn, dr, tk + 1, os⟩
  refine bnd (wpAny_setField_rec he2 (by simp) fun m3 he3 sb3 => ?_)
  have sb3 : Heap.SameBut e m2 m3 := sb3
  have he3 : IsEnum m3 e it (c + 1) old := he3
  show wpAny _ _ (newTuple [.int c tk, x] >>= _) _ _ ⟨m3, gn, dr, tk + 1, os⟩
  refine bnd (wpAny_newTuple ?_)
  have sz : m3.objs.size = m.objs.size := by rw [sb3.1, sb2.1]
  have le : e < m.objs.size := Heap.lt_size he1
  have he4 : IsEnum (m3.push { cls := .type "tuple", data := .seq #[.int c tk, x] }) e it (c + 1) old := Heap.get?_push_of_some _ he3
  have T4 : (m3.push { cls := .type "tuple", data := .seq #[.int c tk, x] }).get? m.objs.size = some { cls := .type "tuple", data := .seq #[.int c tk, x] } := by rw [← sz]; exact Heap.get?_push_size _ rfl
  have k4 : ∀ b o, b ≠ e → m.get? b = some o → (m3.push { cls := .type "tuple", data := .seq #[.int c tk, x] }).get? b = some o := fun b o n q => Heap.get?_push_of_some _ (sb3.extBut b o n (sb2.extBut b o n q))
  show wpAny _ _ (Builtin.SmallTypes.ownedTupleIsFree (.ref e) >>= _) _ _ ⟨_, gn, dr, tk + 1, os⟩
  rw [sz]
  generalize m3.push { cls := .type "tuple", data := .seq #[.int c tk, x] } = m4 at he4 T4 k4
  refine bnd ?_
  unfold Builtin.SmallTypes.ownedTupleIsFree; refine bnd (wpAny_field he4 rfl (x := .none) rfl (pur ?_))
  simp only [if_true]
  refine bnd (wpAny_rule ?_)
  refine bnd (wpAny_field he4 rfl (x := old) rfl ?_)
  refine bnd (wpAny_setField_rec he4 (by simp) fun m5 he5 sb5 => ?_)
  have sb5 : Heap.SameBut e m4 m5 := sb5
  have he5 : IsEnum m5 e it (c + 1) x := he5
  show wpAny _ _ (Builtin.SmallTypes.ownedTupleHandOut (.ref e) (.ref m.objs.size) >>= _) _ _ ⟨m5, gn, dr, tk + 1, os⟩
  refine bnd ?_
  unfold Builtin.SmallTypes.ownedTupleHandOut; refine bnd (wpAny_setField_rec he5 (by simp) fun m6 he6 sb6 => ?_)
  have sb6 : Heap.SameBut e m5 m6 := sb6
  have he6 : IsEnumOut m6 e it (c + 1) x m.objs.size := he6
  refine wpAny_setField_rec he6 (by simp) fun m7 he7 sb7 => ?_
  have sb7 : Heap.SameBut e m6 m7 := sb7
  have he7 : IsEnumOut m7 e it (c + 1) x m.objs.size := he7
  have up : ∀ b o, b ≠ e → m4.get? b = some o → m7.get? b = some o := fun b o n q => sb7.extBut b o n (sb6.extBut b o n (sb5.extBut b o n q))
  exact bnd (wpAny_letGo (pur ⟨_, rfl, hQ x m m7 tk hR he7 (up _ _ (Nat.ne_of_gt le) T4) fun b o n q => up b o n (k4 b o n q)⟩))
theorem en_next {e it : Addr} {c : Int} {old : Value} {R : Value → Heap → Prop} {Q : Option Value → Shared → Prop} (he : IsEnum s.heap e it c old)
    (item : ∀ {Q' E' : Value → Shared → Prop}, (∀ x m tk, R x m → IsEnum m e it c old → Q' x { s with heap := m, toks := tk }) → wpAny (model P w) A.in1 (Builtin.SmallTypes.nextOf (.ref it)) Q' E' s)
    (hQ : ∀ x m h' tk, R x m → IsEnumOut h' e it (c + 1) x m.objs.size → h'.get? m.objs.size = some { cls := .type "tuple", data := .seq #[.int c tk, x] } →
      (∀ b o, b ≠ e → m.get? b = some o → h'.get? b = some o) → Q (some (.ref m.objs.size)) { s with heap := h', toks := tk + 1 }) : wpAny (model P w) A (pyNext (.ref e)) Q E s := by
  have tz : s.TypeIs (.ref e) "enumerate" := ⟨_, he, rfl⟩
  unfold pyNext
  exact bnd (wpAny_attempt (wpAny_callSpecial?_slot (name := Str.ofString "__next__") tz F.slot_enumerate_next (wpAny_call_entry F.slot_enumerate_next tz F.entry_enumerate_next
    (en_item (R := R) he item fun x m h' tk q1 q2 q3 q4 => pur (hQ x m h' tk q1 q2 q3 q4)) (F.args_enumerate_next_1 _))))
theorem en_stop {e it : Addr} {c : Int} {old : Value} {R : Heap → Prop} {Q : Option Value → Shared → Prop} (he : IsEnum s.heap e it c old)
    (fin : ∀ {Q' E' : Value → Shared → Prop}, (∀ m tk x, R m → (∃ o, m.get? x = some o ∧ o.cls = .type "StopIteration") → E' (.ref x) { s with heap := m, toks := tk }) → wpAny (model P w) A.in1 (Builtin.SmallTypes.nextOf (.ref it)) Q' E' s)
    (hQ : ∀ m tk, R m → Q none { s with heap := m, toks := tk }) : wpAny (model P w) A (pyNext (.ref e)) Q E s := by
  have tz : s.TypeIs (.ref e) "enumerate" := ⟨_, he, rfl⟩
  unfold pyNext
  refine bnd (wpAny_attempt (wpAny_callSpecial?_slot (name := Str.ofString "__next__") tz F.slot_enumerate_next (wpAny_call_entry F.slot_enumerate_next tz F.entry_enumerate_next ?_ (F.args_enumerate_next_1 _))))
  show wpAny _ _ (field (.ref e) 2 >>= _) _ _ _; refine bnd (wpAny_field he rfl (x := .ref it) rfl (bnd (fin fun m tk x hR hx => ?_)))
  obtain ⟨o, ho, hc⟩ := hx
  exact bnd (wpAny_isInstance (T := "StopIteration") (b := true) ⟨o, ho, hc⟩ isSubtype_stop (pur (hQ _ _ hR)))
end
set_option maxHeartbeats 900000 in
theorem meets_enumI {v : Value} {H : Heap → Prop} (B : ∀ (prog : Program) (w : World) (A' : Around) (E Q : Value → Shared → Prop) (s : Shared), H s.heap → Q v s → wpAny (model prog w) A' (pyIter v) Q E s) :
    Meets (Builtin.«enumerate.__new__» ⟨[.type "enumerate", v], []⟩) (fun _ R s => H s.heap ∧
      R (.ok (.ret (.ref s.heap.objs.size))) { s with heap := s.heap.push { cls := .type "enumerate", data := .fields #[.none, .bool false, v, rawInt 0, .none, .none] } }) :=
  .of_wp fun prog w A R s ⟨h1, h⟩ => by
    obtain ⟨hp, gn, d, tk, os⟩ := s
    have hsub := sub_enumerate
    have qB : ∀ {A' : Around} {E Q : Value → Shared → Prop}, Q v ⟨hp, gn, d, tk, os⟩ → wpAny (model prog w) A' (pyIter v) Q E ⟨hp, gn, d, tk, os⟩ :=
      B prog w _ _ _ ⟨hp, gn, d, tk, os⟩ h1
    wp_walk using qB
    refine wpAny_stack_any fun now_ => pur ?_
    split
    · rename_i c _ _ _ _ _
      rcases (c == Value.type "enumerate")
      · wp_walk using qB
        exact ⟨_, rfl, h⟩
      · wp_walk using qB
        exact ⟨_, rfl, h⟩
    · wp_walk using qB
      exact ⟨_, rfl, h⟩
theorem call_enumI {prog : Program} {w : World} {A : Around} {E : Value → Shared → Prop} {s : Shared} {v : Value} {H : Heap → Prop} {Q : Value → Shared → Prop} (B : ∀ (prog : Program) (w : World) (A' : Around) (E Q : Value → Shared → Prop) (s : Shared), H s.heap → Q v s → wpAny (model prog w) A' (pyIter v) Q E s) (h1 : H s.heap)
    (h : ∀ h', h'.get? s.heap.objs.size = some { cls := .type "enumerate", data := .fields #[.none, .bool false, v, rawInt 0, .none, .none] } →
      (∀ b o, s.heap.get? b = some o → h'.get? b = some o) → Q (.ref s.heap.objs.size) { s with heap := h' }) : wpAny (model prog w) A (call (.type "enumerate") [v]) Q E s := by
  refine callType_new F.called_enumerate (by decide) (F.typeCall_enumerate_1 _) (F.newCall_enumerate_1 _) (fun obj => F.args_object_init_2 obj _) F.entry_enumerate_new (meets_enumI B) ⟨h1, ?_⟩
  have ce : (s.heap.push { cls := .type "enumerate", data := .fields #[.none, .bool false, v, rawInt 0, .none, .none] }).get? s.heap.objs.size = some { cls := .type "enumerate", data := .fields #[.none, .bool false, v, rawInt 0, .none, .none] } := Heap.get?_push_size s.heap rfl
  exact ⟨⟨_, ce, rfl⟩, h _ ce fun b o x => Heap.get?_push_of_some _ x⟩
/-- numbered pairs -/
def Itez (K : PySem.W.Frag) (ka kb : Bool) (a b : Addr) : It :=
  ⟨(Itz2 K ka kb a b).go,
    fun i H v H' => ∃ T0 T x y, v = .ref T ∧ H T0 = none ∧ upd H T0 (.tup [x, y]) T = none ∧ H' = upd (upd H T0 (.tup [x, y])) T (.tup [.int (i : Nat), .ref T0]) ∧ (∀ xs, Sq K ka H a xs → xs[i]? = some x) ∧ ∀ ys, Sq K kb H b ys → ys[i]? = some y,
    (Itz2 K ka kb a b).stop⟩
theorem rj_ez {g : Gl} {ρ : Nat → Addr} {n : Nat} {H : Hp} {K : PySem.W.Frag} {a b : Addr} {ja jb : Ja} {ka kb : Bool} (s : Sj g ρ n H ka a ja) (t : Sj g ρ n H kb b jb) : RJ g ρ n H (Itez K ka kb a b) (.ez ja jb) := by
  intro ρ' h' H' i o e r q
  unfold Ja.nxt at q
  split at q
  · rename_i x y e1 e2
    cases q
    obtain ⟨ys, h1, v, h2, h3⟩ := (s.mono e).nxt (K := K) r e1
    obtain ⟨zs, k1, w, k2, k3⟩ := (t.mono e).nxt (K := K) r e2
    refine ⟨⟨ys, zs, v, w, h1, k1, h2, k2⟩, fun u H'' ⟨T0, T, x', y', z1, z2, z2', z3, z4, z5⟩ => ?_⟩
    subst z1 z3
    have z4 := z4 ys h1
    rw [h2] at z4; cases z4
    have z5 := z5 zs k1
    rw [k2] at z5; cases z5
    have e1 := ext_new (ρ := ρ') (n := h'.n) (o := HO.tup [v, w]) z2
    have e2 := ext_new (ρ := ρ') (n := h'.n) (o := HO.tup [.int (i : Nat), .ref T0]) z2'
    have p0 : RV g ρ' h'.n (upd H' T0 (.tup [v, w])) (.tup [x, y]) (.ref T0) := rv_tup upd_same (.cons (h3.mono e1) (.cons (k3.mono e1) .nil))
    exact ⟨e1.trans e2, (r.new z2).new z2', rv_tup upd_same (.cons rv_int (.cons (p0.mono e2) .nil))⟩
  · split at q
    · rename_i la lb e1 e2
      split at q
      · rename_i hb
        cases q
        simp only [Bool.and_eq_true, Bool.or_eq_true, Nat.ble_eq, Nat.beq_eq] at hb
        obtain ⟨ys, h1, h2⟩ := (s.mono e).len (K := K) r e1
        obtain ⟨zs, k1, k2⟩ := (t.mono e).len (K := K) r e2
        exact ⟨ys, zs, h1, k1, by rw [h2]; exact hb.1, by rw [k2]; exact hb.2.1, by rw [h2, k2]; exact hb.2.2⟩
      · cases q
    · cases q
theorem mem6 {c e z TI TO i1 i2 : Addr} (h : c ∈ [e, z, TI, TO, i1, i2]) : c = e ∨ c ∈ [z, TI, TO, i1, i2] := by simpa using h
theorem turn_ez {P : Program} {w : World} {K : PySem.W.Frag} {elts : List Expr} {kk : Nat} {tpos : Pos} {a b e z TI TO i1 i2 : Addr} {ka kb : Bool} (S : ZipSep2 z TI TO i1 i2 [i1, a] [i2, b]) (ne : e ∉ [z, TI, TO, i1, i2]) :
    Turn P w K (.Tuple elts kk tpos) (Itez K ka kb a b) [e, z, TI, TO, i1, i2] e (fun i h => (∃ old, IsEnum h e z ((i : Nat) : Int) old) ∧ (∃ f0 f1, ZG h z TI TO f0 f1 ∧ Last f0) ∧ IsTupOf2 h TI (.ref i1) (.ref i2) ∧ (∃ x y, IsTupOf2 h TO x y) ∧ IsIt ka h i1 a i ∧ IsIt kb h i2 b i) where
  mem := List.mem_cons_self ..
  obj := fun i h ⟨⟨old, ce⟩, ⟨f0, f1, cz, _⟩, cI, ⟨x, y, cO⟩, h1, h2⟩ c hc => by
    rcases mem6 hc with q | q
    · rw [q]; exact ⟨_, ce, fun v q => nomatch q⟩
    rcases mem5 q with q | q | q | q | q
    · rw [q]; exact ⟨_, cz, fun v q => nomatch q⟩
    · rw [q]; exact ⟨_, cI, fun v q => nomatch q⟩
    · rw [q]; exact ⟨_, cO, fun v q => nomatch q⟩
    · rw [q]; exact h1.obj
    · rw [q]; exact h2.obj
  keep := fun i h h' ⟨⟨old, ce⟩, ⟨f0, f1, cz, hl⟩, cI, ⟨x, y, cO⟩, h1, h2⟩ k => ⟨⟨old, k e (by simp) _ ce⟩, ⟨f0, f1, k z (by simp) _ cz, hl⟩, k TI (by simp) _ cI, ⟨x, y, k TO (by simp) _ cO⟩, h1.at' fun o q => k i1 (by simp) o q, h2.at' fun o q => k i2 (by simp) o q⟩
  item := by
    intro X eP eW eK hc i pl s σ H E I ok ⟨⟨old, ce⟩, ⟨f0, f1, cz, hl⟩, cI, ⟨o1, o2, cO⟩, h1, h2⟩ ⟨as_, ys, x, y, qa, qb, gx, gy⟩
    subst eP eW eK
    obtain ⟨im, vs1, p⟩ := sq_get I qa
    obtain ⟨im2, vs2, p2⟩ := sq_get I qb
    obtain ⟨u, gu, vu⟩ := vs1.get gx
    obtain ⟨u2, gu2, vu2⟩ := vs2.get gy
    have hh : X.A.in1.handled = none := I.ok.hd hc
    have n5 : ∀ c, c ∈ [z, TI, TO, i1, i2] → e ≠ c := fun c hc' q => ne (q ▸ hc')
    have el : e < s.heap.objs.size := Heap.lt_size ce
    refine en_next (R := fun u' m => u' = .ref s.heap.objs.size ∧ (∃ f0 f1, ZG m z TI TO f0 f1 ∧ Last f0) ∧ (∃ x y, IsTupOf2 m TO x y) ∧ (IsIt ka m i1 a (i + 1) ∧ IsSq ka m a im.toArray) ∧ (IsIt kb m i2 b (i + 1) ∧ IsSq kb m b im2.toArray) ∧ IsTupOf2 m s.heap.objs.size u u2 ∧
        (∀ c o, c ≠ z → c ≠ TO → c ≠ i1 → c ≠ i2 → s.heap.get? c = some o → m.get? c = some o)) ce
      (fun {Q' E'} hq => zg_nof (a1 := o1) (a2 := o2) S (draws_sq (A := X.A.in1.in1) hh ka i1 a (p.apart h1) im.toArray) (draws_sq (A := X.A.in1.in1) hh kb i2 b (p2.apart h2) im2.toArray) cz hl cI cO ⟨h1, p⟩ ⟨h2, p2⟩ (by have := (List.getElem?_eq_some_iff.mp gu).1; simpa using this) (by have := (List.getElem?_eq_some_iff.mp gu2).1; simpa using this)
        fun x1 x2 h' tk k0 k1 b1 b2 px1 px2 zz ll TT st1 st2 tz kp => hq _ h' tk ⟨rfl, ⟨k0, k1, zz, ll⟩, ⟨b1, b2, TT⟩, st1, st2, by
          have ex1 : x1 = u := by simp only [List.getElem?_toArray] at px1; rw [gu] at px1; cases px1; rfl
          have ex2 : x2 = u2 := by simp only [List.getElem?_toArray] at px2; rw [gu2] at px2; cases px2; rfl
          subst ex1 ex2
          exact tz, kp⟩ (kp _ _ (n5 z (by simp)) (n5 TO (by simp)) (n5 i1 (by simp)) (n5 i2 (by simp)) ce))
      fun u' m h' tk ⟨eu, ⟨k0, k1, zz, ll⟩, ⟨b1, b2, TT⟩, st1, st2, tz, kp⟩ ho hT2 k2 => ?_
    subst eu
    refine ⟨_, rfl, wpAny_letOwnedTupleGo_enum (s := { s with heap := h', toks := tk + 1 }) ho fun m2 he2 sb => ?_⟩
    have lt0 : s.heap.objs.size < m.objs.size := Heap.lt_size tz
    have up : ∀ c o, c ≠ e → m.get? c = some o → m2.get? c = some o := fun c o n q => (sb.2 c n).trans (k2 c o n q)
    have nob : ObjOk X.prog X.w (upd H s.heap.objs.size (.tup [x, y])) m s.heap.objs.size (.tup [x, y]) :=
      ⟨by show 2 ≤ sizeLine; decide, [u, u2], .cons vu (.cons vu2 .nil), ⟨_, tz, rfl, _, rfl⟩⟩
    have J : Inv X pl σ (upd H s.heap.objs.size (.tup [x, y])) { s with heap := m, toks := tk } :=
      I.turnedNew (t' := tk) (ch := [z, TI, TO, i1, i2]) (fun c o hb q => kp c o (fun q' => hb (by simp [q'])) (fun q' => hb (by simp [q'])) (fun q' => hb (by simp [q'])) (fun q' => hb (by simp [q'])) q) (fun c hc' => ok c (List.mem_cons_of_mem _ hc')) (Nat.le_refl _) nob
    have T2 : m2.get? m.objs.size = some { cls := .type "tuple", data := .seq #[.int i tk, .ref s.heap.objs.size] } := (sb.2 _ (Nat.ne_of_gt (Nat.lt_trans el lt0))).trans hT2
    have nob2 : ObjOk X.prog X.w (upd (upd H s.heap.objs.size (.tup [x, y])) m.objs.size (.tup [.int (i : Nat), .ref s.heap.objs.size])) m2 m.objs.size (.tup [.int (i : Nat), .ref s.heap.objs.size]) :=
      ⟨by show 2 ≤ sizeLine; decide, [.int i tk, .ref s.heap.objs.size], .cons ⟨_, rfl⟩ (.cons rfl .nil), ⟨_, T2, rfl, _, rfl⟩⟩
    have oke : FpOk X pl (upd H s.heap.objs.size (.tup [x, y])) e := by
      obtain ⟨q0, q⟩ := ok e (by simp)
      exact ⟨by rw [upd_ne (Nat.ne_of_lt el)]; exact q0, q⟩
    have J2 : Inv X pl σ (upd (upd H s.heap.objs.size (.tup [x, y])) m.objs.size (.tup [.int (i : Nat), .ref s.heap.objs.size])) { s with heap := m2, toks := tk + 1 } :=
      J.turnedNew (h' := m2) (t' := tk + 1) (ch := [e]) (fun c o hb q => up c o (fun q' => hb (by simp [q'])) q) (fun c hc' => by rw [List.mem_singleton.mp hc']; exact oke) (Nat.le_refl _) nob2
    have blw : ∀ c, c ∈ [e, z, TI, TO, i1, i2] → c < s.heap.objs.size := fun c hcm => by
      rcases mem6 hcm with q | q
      · rw [q]; exact el
      rcases mem5 q with q | q | q | q | q
      · rw [q]; exact Heap.lt_size cz
      · rw [q]; exact Heap.lt_size cI
      · rw [q]; exact Heap.lt_size cO
      · rw [q]; obtain ⟨_, e1, _⟩ := h1.obj; exact Heap.lt_size e1
      · rw [q]; obtain ⟨_, e2, _⟩ := h2.obj; exact Heap.lt_size e2
    refine ⟨.ref m.objs.size, _, J2, rfl, ⟨_, _, x, y, rfl, I.hok.fresh (Nat.le_refl _), J.hok.fresh (Nat.le_refl _), rfl, fun l hl => by rw [sq_inj I hl qa]; exact gx, fun l hl => by rw [sq_inj I hl qb]; exact gy⟩,
      ⟨⟨_, by rw [show ((i + 1 : Nat) : Int) = (i : Int) + 1 by omega]; exact he2⟩, ⟨k0, k1, up _ _ (n5 z (by simp)).symm zz, ll⟩, up _ _ (n5 TI (by simp)).symm (kp _ _ S.TIz S.TITO S.TIi1 S.TIi2 cI), ⟨b1, b2, up _ _ (n5 TO (by simp)).symm TT⟩, st1.1.at' fun o q => up _ _ (n5 i1 (by simp)).symm q, st2.1.at' fun o q => up _ _ (n5 i2 (by simp)).symm q⟩, fun c hcm => ?_⟩
    rw [upd_ne (Nat.ne_of_lt (Nat.lt_trans (blw c hcm) lt0)), upd_ne (Nat.ne_of_lt (blw c hcm))]
    exact (ok c hcm).1
  done := by
    intro X eP eW eK hc i pl s σ H E I ok ⟨⟨old, ce⟩, ⟨f0, f1, cz, hl⟩, cI, ⟨o1, o2, cO⟩, h1, h2⟩ ⟨as_, ys, qa, qb, l1, l2, hend⟩
    subst eP eW eK
    obtain ⟨im, vs1, p⟩ := sq_get I qa
    obtain ⟨im2, vs2, p2⟩ := sq_get I qb
    have e1 := vs1.length
    have e2 := vs2.length
    have hh : X.A.in1.handled = none := I.ok.hd hc
    exact en_stop (R := fun m => ∀ c o, c ≠ z → c ≠ TO → c ≠ i1 → c ≠ i2 → s.heap.get? c = some o → m.get? c = some o) ce
      (fun {Q' E'} hq => zg_nofe (a1 := o1) (a2 := o2) S (draws_sq (A := X.A.in1.in1) hh ka i1 a (p.apart h1) im.toArray) (draws_sq (A := X.A.in1.in1) hh kb i2 b (p2.apart h2) im2.toArray) cz hl cI cO ⟨h1, p⟩ ⟨h2, p2⟩ (by simp; omega) (by simp; omega) (by simp; omega)
        fun h' tk x kp hx => hq h' tk x kp hx)
      fun h' tk kp => ⟨rfl, I.turnedL (t' := tk) (ch := [z, TI, TO, i1, i2]) (fun c o hb q => kp c o (fun q' => hb (by simp [q'])) (fun q' => hb (by simp [q'])) (fun q' => hb (by simp [q'])) (fun q' => hb (by simp [q'])) q) fun c hc' => ok c (List.mem_cons_of_mem _ hc')⟩
  self := fun A i s Q E ⟨⟨_, ce⟩, _⟩ h => wpAny_pyIter_enum ce h
section
variable {X : Cx} {g : Gl} {W : WX} {e e2 : Expr} {fs : FA} {p p2 pos pos2 tpos : Pos} {elts : List Expr} {kk : Nat}
theorem pi_ez {ta : TA} (hge : L2.Gl X "enumerate") (hme : X.mg "enumerate" = none) (hg : L2.Gl X "zip") (hm : X.mg "zip" = none) (ha : PA X [e, e2] ta) (hs : starEach [e, e2] X.env = (false, eval e X.env) :: starEach [e2] X.env := by rfl) (hpl : (backTo pos2 (starEach [e2] X.env)).any (·.1) = false := by rfl)
    (hs' : starEach [.Call (.Name "zip" p2) [e, e2] [] pos2] X.env = [(false, eval (.Call (.Name "zip" p2) [e, e2] [] pos2) X.env)] := by rfl) :
    PI X (.Tuple elts kk tpos) (.Call (.Name "enumerate" p) [.Call (.Name "zip" p2) [e, e2] [] pos2] [] pos) (fun σ H R => ta σ H fun vs HB => ∃ ka kb a b xs ys, vs = [.ref a, .ref b] ∧ Sq X.K ka HB a xs ∧ Sq X.K kb HB b ys ∧ R (Itez X.K ka kb a b) HB) := by
  refine ⟨fun pl s σ H R I h => ?_⟩
  refine Call_ (ld_blt I hge hme boot_enumerate (PyProof.Rows.callWith_type1 ?_ hs' rfl))
  refine args_cons ?_ hs'
  refine Call_ (ld_blt I hg hm PyProof.Rows.boot_zip (PyProof.Rows.callWith_type1 (thn (ha.run pos2 pl s σ H _ I h) fun ws sB ⟨vs, HB, IB, rB, ka, kb, a, b, xs, ys, ex, qa, qb, q⟩ => ?_) hs hpl))
  subst ex
  cases rB with
  | cons r rr =>
    cases rr with
    | cons r' rr =>
      cases rr
      cases r
      cases r'
      obtain ⟨im, vs1, p1⟩ := sq_get IB qa
      obtain ⟨im2, vs2, p2⟩ := sq_get IB qb
      refine zip_begins2 (begins_sq ka a im.toArray) (begins_sq kb b im2.toArray) p1 p2 fun h' cz cI cO g1 g2 szs kp => ?_
      refine args_nil ?_
      refine call_enumI (v := .ref (sB.heap.objs.size + 4)) (H := fun h => ∃ f0 f1 TI TO, ZG h (sB.heap.objs.size + 4) TI TO f0 f1) (fun _ _ _ _ _ _ ⟨_, _, _, _, hz⟩ hq => zg_self hz hq) ⟨_, _, _, _, cz⟩ fun m ce kp2 => wpAny_pyIter_enum ce ?_
      have lt5 : sB.heap.objs.size + 4 < h'.objs.size := Heap.lt_size cz
      have ok6 : ∀ c, c ∈ [h'.objs.size, sB.heap.objs.size + 4, sB.heap.objs.size + 2, sB.heap.objs.size + 3, sB.heap.objs.size, sB.heap.objs.size + 1] → FpOk X pl HB c := fun c hcm => by
        have abv : sB.heap.objs.size ≤ c := by
          rcases mem6 hcm with z | z
          · rw [z]; exact Nat.le_of_lt (Nat.lt_of_le_of_lt (Nat.le_add_right _ _) lt5)
          rcases mem5 z with z | z | z | z | z <;> rw [z] <;> first | exact Nat.le_add_right _ _ | exact Nat.le_refl _
        exact IB.fpOk abv (IB.hok.fresh abv)
      have I2 : Inv X pl σ HB { sB with heap := m } := IB.kept (t' := sB.toks) fun b o q => kp2 b o (kp b o q)
      refine ⟨h'.objs.size, [h'.objs.size, sB.heap.objs.size + 4, sB.heap.objs.size + 2, sB.heap.objs.size + 3, sB.heap.objs.size, sB.heap.objs.size + 1], _, _, HB, rfl, I2,
        turn_ez (ka := ka) (kb := kb) (a := a) (b := b) (zip_sep2 (fun c hc => by have := List.mem_singleton.mp hc; subst this; exact p1.lt) (fun c hc => by have := List.mem_singleton.mp hc; subst this; exact p2.lt)) (fun hcm => ?_), ⟨⟨_, ce⟩, ⟨_, _, kp2 _ _ cz, .inl rfl⟩, kp2 _ _ cI, ⟨_, _, kp2 _ _ cO⟩, (is_it0 g1).at' fun o q => kp2 _ o q, (is_it0 g2).at' fun o q => kp2 _ o q⟩, ok6, q⟩
      rcases mem5 hcm with z | z | z | z | z <;> exact absurd z (by have : (sB.heap.objs.size + 4 : Nat) < h'.objs.size := lt5; intro (z : (h'.objs.size : Nat) = _); omega)
def iEz (fs : FA) : FI := fun s h => (fs s h).bind fun vs h1 => match vs with
  | [v, w] => (match seqJ v h1, seqJ w h1 with
    | some j, some k => .ok (.ez j k) h1
    | _, _ => .no)
  | _ => .no
theorem ei_ez (hge : L2.Gl X "enumerate") (hme : X.mg "enumerate" = none) (hg : L2.Gl X "zip") (hm : X.mg "zip" = none) (ha : PA X [e, e2] (rdA g W fs)) (hs : starEach [e, e2] X.env = (false, eval e X.env) :: starEach [e2] X.env := by rfl) (hpl : (backTo pos2 (starEach [e2] X.env)).any (·.1) = false := by rfl)
    (hs' : starEach [.Call (.Name "zip" p2) [e, e2] [] pos2] X.env = [(false, eval (.Call (.Name "zip" p2) [e, e2] [] pos2) X.env)] := by rfl) :
    PI X (.Tuple elts kk tpos) (.Call (.Name "enumerate" p) [.Call (.Name "zip" p2) [e, e2] [] pos2] [] pos) (rdI g W (iEz fs)) :=
  (pi_ez hge hme hg hm ha hs hpl hs').imp fun σ H R ⟨ρ, s, h, rs, r, p⟩ => rdA.seq rs r .refl p fun vs xs ρ1 h1 H1 e1 r1 rx p1 => by
    split at p1
    · split at p1
      · rename_i j k hj hk
        obtain ⟨y, y', rfl, ry, ry'⟩ := rx.two
        obtain ⟨b, a, ys, rfl, sj, sq⟩ := seqJ_ok (K := X.K) r1 ry hj
        obtain ⟨b', a', ys', rfl, sj', sq'⟩ := seqJ_ok (K := X.K) r1 ry' hk
        exact ⟨b, b', a, a', ys, ys', rfl, sq, sq', p1.now e1 r1 _ (rj_ez sj sj')⟩
      · exact p1.elim
    · exact p1.elim
end
end Ev

/-! taking a list apart -/
namespace Ev
open PySem PySem.Spec L2
open PyProof.Rows hiding St
section
variable {X : Cx} {g : Gl} {W : WX} {pos : Pos}
def fAsgL (ts : List Tg) (f : FE) : FS := fun s h => (f s h).toS s fun v h1 => match v with
  | .ref k => (match h1.get k with
    | some (.lst xs) => (match Tg.runs ts xs s with
      | some s' => .nx s' h1
      | none => .no)
    | _ => .no)
  | _ => .no
theorem es_asgL {es : List Expr} {kk : Nat} {tpos : Pos} {e : Expr} {f : FE} {ts : List Tg} (hc : X.calm = true) (he : PE X e (rdE g W f)) (hg : PGs X es (rdGs g ts)) (hs : swapsWithSole [.Tuple es kk tpos] e pos.line X.env = pure false := by rfl) (hw : swappedStores [.Tuple es kk tpos] e X.env = pure none := by rfl)
    (h1 : (assignEach [.Tuple es kk tpos] X.env).map (·.2) = [assign (.Tuple es kk tpos) X.env] := by rfl) (hn : (assignEach es X.env).length = ts.length := by rfl) (hst : (assignEach es X.env).findIdx? (·.1) = none := by rfl) : PS X (.Assign [.Tuple es kk tpos] e pos) (rdS g W (fAsgL ts f)) :=
  (ps_asg he (pg_unl hc hg hn hst) hs hw h1).imp fun D σ H ⟨ρ, s, h, rs, r, p⟩ => rdS.e rs r .refl p fun v x ρ1 h1 H1 e1 r1 rx p1 => by
    split at p1
    · rename_i k
      split at p1
      · rename_i xs hk
        split at p1
        · rename_i s' es'
          obtain ⟨ys, hy, rys⟩ := r1.lst hk
          obtain ⟨_, rfl⟩ := rx.ref'
          exact ⟨_, ys, rfl, .of hy, by rw [← rys.length]; exact runs_len es', ρ1, h1.n, s, xs, s', rs.mono e1, rys, es', fun σ' rs' _ => p1 ρ1 H1 σ' e1 r1 rs'⟩
        · exact p1.elim
      · exact p1.elim
    · exact p1.elim
end
/-! ### in a tuple, at any depth -/
def rInTu (K : PySem.W.Frag) (neg : Bool) : R2 := fun x y H Q => ∃ d ds, Dp K H x d ∧ Dp K H y (.tuple ds) ∧ SeqAt.shaped d = true ∧ SeqAt.shaped (.tuple ds) = true ∧ Q (.bl (Bool.xor neg (ds.any fun z => PyData.eqv z d))) H
section
variable {X : Cx} {g : Gl}
theorem op_inTu (hu : X.A.units + 65 < cLine) : OpR X (compareOp .In) (rInTu X.K false) := by
  intro pl s σ H x y v u Q I rx ry h
  obtain ⟨d, ds, hd, he, sd, se, q⟩ := h; rw [Bool.false_xor] at q
  obtain ⟨p1, r1⟩ := Dp.reads I d x v hd rx
  obtain ⟨p2, r2⟩ := Dp.reads I (.tuple ds) y u he ry
  exact SeqAt.in_tuple_reads r2 r1 (SeqAt.canLay_of_shaped se) (SeqAt.canLay_of_shaped sd) (room_in_shaped sd hu) ⟨.bl _, H, I, rfl, q⟩
theorem op_notInTu (hu : X.A.units + 65 < cLine) : OpR X (compareOp .NotIn) (rInTu X.K true) := by
  intro pl s σ H x y v u Q I rx ry h
  obtain ⟨d, ds, hd, he, sd, se, q⟩ := h; rw [Bool.true_xor] at q
  obtain ⟨p1, r1⟩ := Dp.reads I d x v hd rx
  obtain ⟨p2, r2⟩ := Dp.reads I (.tuple ds) y u he ry
  exact SeqAt.notIn_tuple_reads r2 r1 (SeqAt.canLay_of_shaped se) (SeqAt.canLay_of_shaped sd) (room_in_shaped sd hu) ⟨.bl _, H, I, rfl, q⟩
def cInE (neg : Bool) : C2 := fun v w h => match w with
  | .tup xs => (match flatA v && xs.all flatA with
    | true => cInD neg v (.tup xs) h
    | false => (match toD h 60 v, mapD (toD h 60) xs with
      | some d, some ds => (match SeqAt.shaped d && SeqAt.shaped (.tuple ds) with
        | true => .ok (Bool.xor neg (ds.any fun z => PyData.eqv z d)) h
        | false => .no)
      | _, _ => .no))
  | w => cInD neg v w h
theorem co_inE {r : R2} {K : PySem.W.Frag} {neg : Bool} (ok : CmpOk g r (cInD neg)) : CmpOk g (fun x y H Q => r x y H Q ∨ rInTu K neg x y H Q) (cInE neg) := by
  intro W ρ ρc n H Hc h σ Q v w x y e rh rx ry p
  unfold cInE at p
  split at p
  · rename_i xs
    split at p
    · exact .inl (ok e rh rx ry p)
    · split at p
      · rename_i d ds hd hds
        split at p
        · rename_i hs
          rw [Bool.and_eq_true] at hs
          obtain ⟨q, ys, rfl, hq, rys⟩ := ry.tup'
          exact .inr ⟨d, ds, toD_ok rh _ _ _ _ hd rx, .tup (.of hq) (mapD_all (fun a v d e rv => toD_ok rh 60 a v d e rv) hds rys), hs.1, hs.2, p.now e rh⟩
        · exact p.elim
      · exact p.elim
  · exact .inl (ok e rh rx ry p)
theorem or_inE (hu : X.A.units + 65 < cLine) : OpR X (compareOp .In) (fun x y H Q => (rInA X.K x y H Q ∨ rDIn X.w false x y H Q) ∨ rInTu X.K false x y H Q) := (or_ing hu).or (op_inTu hu)
theorem or_notinE (hu : X.A.units + 65 < cLine) : OpR X (compareOp .NotIn) (fun x y H Q => (rNotInA X.K x y H Q ∨ rDIn X.w true x y H Q) ∨ rInTu X.K true x y H Q) := (or_noting hu).or (op_notInTu hu)
theorem co_inT {K : PySem.W.Frag} {w : World} (hw : w = g.w) : CmpOk g (fun x y H Q => (rInA K x y H Q ∨ rDIn w false x y H Q) ∨ rInTu K false x y H Q) (cInE false) := co_inE (co_ing hw)
theorem co_notinT {K : PySem.W.Frag} {w : World} (hw : w = g.w) : CmpOk g (fun x y H Q => (rNotInA K x y H Q ∨ rDIn w true x y H Q) ∨ rInTu K true x y H Q) (cInE true) := co_inE (co_noting hw)
end
end Ev

/-! a tuple times 1, times 0 -/
namespace Ev
open PySem PySem.Spec L2
open PyProof.Rows hiding St
abbrev tupO (items : Array Value) (n : Nat) (dd : Option Addr) (sl : Array (Option Value)) : Obj := { cls := .type "tuple", dict := dd, data := .seq items n, slots := sl }
theorem ff {b : Bool} (h : b = false) : ¬ b = true := fun e => by
  rw [h] at e
  cases e
set_option maxHeartbeats 3900000 in
theorem mul_same (l : Addr) (items : Array Value) (n : Nat) (dd : Option Addr) (sl : Array (Option Value)) (x : Int) (u : Tok) (c0 : (decide (x < -(2 ^ 63)) || decide (x ≥ 2 ^ 63)) = false) (c1 : (items.isEmpty || x == 1) = true) :
    Meets (Builtin.«tuple.__mul__» ⟨[.ref l, .int x u], []⟩) (fun _ R s => s.heap.get? l = some (tupO items n dd sl) ∧
      R (.ok (.ret (Value.ref l))) s) :=
  .of_wp fun prog w A R ⟨hp, gn, dr, tk, os⟩ ⟨hl, h⟩ => by
    have f1 := AutoSeq1.idx_int; wp_walk using wpAny_loadPart' hl
    repeat (first
      | (refine wpAny_ite_false (decide_eq_false (ff c0)) ?_; wp_walk using wpAny_loadPart' hl)
      | (refine wpAny_ite_true (decide_eq_true c1) ?_; wp_walk using wpAny_loadPart' hl))
    exact ⟨_, rfl, h⟩
set_option maxHeartbeats 3900000 in
theorem mul_none (l : Addr) (items : Array Value) (n : Nat) (dd : Option Addr) (sl : Array (Option Value)) (x : Int) (u : Tok) (c0 : (decide (x < -(2 ^ 63)) || decide (x ≥ 2 ^ 63)) = false) (c1 : (items.isEmpty || x == 1) = false) (c2 : (decide (x ≤ 0) || items.isEmpty) = true) :
    Meets (Builtin.«tuple.__mul__» ⟨[.ref l, .int x u], []⟩) (fun _ R s => s.heap.get? l = some (tupO items n dd sl) ∧
      R (.ok (.ret (Value.ref s.heap.objs.size))) { s with heap := s.heap.push { cls := Value.type "tuple", data := Data.seq #[] } }) :=
  .of_wp fun prog w A R ⟨hp, gn, dr, tk, os⟩ ⟨hl, h⟩ => by
    have f1 := AutoSeq1.idx_int; wp_walk using wpAny_loadPart' hl
    repeat (first
      | (refine wpAny_ite_false (decide_eq_false (ff c0)) ?_; wp_walk using wpAny_loadPart' hl)
      | (refine wpAny_ite_false (decide_eq_false (ff c1)) ?_; wp_walk using wpAny_loadPart' hl)
      | (refine wpAny_ite_true (decide_eq_true c2) ?_; wp_walk using wpAny_loadPart' hl))
    exact ⟨_, rfl, h⟩
def rRep01 (K : PySem.W.Frag) : R2 := fun x y H Q => ∃ l k xs, x = .ref l ∧ y = .int k ∧ SqT K H l xs ∧ xs ≠ [] ∧ -1000 ≤ k ∧ k ≤ 1 ∧ ((k = 1 ∧ Q x H) ∨ (k ≤ 0 ∧ ∀ p, H p = none → Q (.ref p) (upd H p (.tup []))))
theorem op_rep01 {X : Cx} : OpR X (binaryOp .Mult) (rRep01 X.K) := by
  intro pl s σ H x y v u Q I rx ry ⟨l, k, xs, ex, ey, hT, hne, h1, h2, q⟩
  subst ex ey
  cases rx
  obtain ⟨t, rfl⟩ := ry
  obtain ⟨its, r, ⟨⟨cls, dd, data, sl⟩, ho, hc, n, hd⟩, _⟩ := I.tuple hT
  simp only at hc hd
  subst hc hd
  have full : its.toArray.isEmpty = false := by
    cases its with
    | nil => exact absurd (List.eq_nil_of_length_eq_zero r.length) hne
    | cons a b => rfl
  have c0 : (decide (k < -(2 ^ 63)) || decide (k ≥ 2 ^ 63)) = false := by simp; omega
  have road : ∀ {E : Value → Shared → Prop} {Q' : Value → Shared → Prop}, wpAny (model X.prog X.w) X.A (call (.builtin "tuple.__mul__") [.ref l, .int k t]) Q' E s → wpAny (model X.prog X.w) X.A (binaryOp .Mult (.ref l) (.int k t)) Q' E s := fun hm =>
    wpAny_binaryOp_repeat_ref (by decide) ⟨_, ho, rfl⟩ (fun s' => typeIs_int s' k t) noFill_tuple_mul F.fills_int_mul F.slot_int_rmul repeat_tuple F.slot_int_index.lookup
      (call_meets F.slot_int_rmul (typeIs_int s k t) F.entry_int_rmul (F.args_int_rmul_2 _ _) (int_rmul_tuple k t l its.toArray n dd sl) ⟨ho, rfl, ⟨_, ho, rfl⟩, hm⟩)
  rcases q with ⟨ek, q⟩ | ⟨ek, q⟩
  · have c1 : (its.toArray.isEmpty || k == 1) = true := by rw [full, ek]; rfl
    exact road (call_meets F.slot_tuple_mul ⟨_, ho, rfl⟩ F.entry_tuple_mul (F.args_tuple_mul_2 _ _) (mul_same l its.toArray n dd sl k t c0 c1) ⟨ho, ⟨.ref l, H, I, rfl, q⟩⟩)
  · have c1 : (its.toArray.isEmpty || k == 1) = false := by rw [full]; simp; omega
    have c2 : (decide (k ≤ 0) || its.toArray.isEmpty) = true := by rw [decide_eq_true ek]; rfl
    refine road (call_meets F.slot_tuple_mul ⟨_, ho, rfl⟩ F.entry_tuple_mul (F.args_tuple_mul_2 _ _) (mul_none l its.toArray n dd sl k t c0 c1 c2) ⟨ho, ?_⟩)
    refine ⟨.ref s.heap.objs.size, _, I.laid (t' := s.toks) (o := .tup []) (fun b ob q => Heap.get?_push_of_some _ q) (Nat.le_refl _) ?_, rfl, q _ (I.hok.fresh (Nat.le_refl _))⟩
    exact ⟨Nat.zero_le _, [], .nil, IsTup.new _ _⟩
def gMulE : G2 := fun v w h => match v, w with
  | .tup xs, .int k => match decide (-1000 ≤ k) && (decide (k ≤ 1) && !xs.isEmpty) with
    | true => (match decide (k = 1) with
      | true => .ok (.tup xs) h
      | false => .ok (.tup []) h)
    | false => gMul (.tup xs) (.int k) h
  | v, w => gMul v w h
theorem or_mulE {X : Cx} : OpR X (binaryOp .Mult) (fun x y H Q => rMulA X.K x y H Q ∨ rRep01 X.K x y H Q) := or_mul.or op_rep01
theorem bo_mulE {g : Gl} {K : PySem.W.Frag} : BinOk g (fun x y H Q => rMulA K x y H Q ∨ rRep01 K x y H Q) gMulE := by
  intro W ρ ρc n H Hc h σ Q v w x y e r rx ry p
  unfold gMulE at p
  split at p
  · rename_i xs k
    split at p
    · rename_i hk
      simp only [Bool.and_eq_true, decide_eq_true_eq, Bool.not_eq_true'] at hk
      obtain ⟨q, ys, rfl, hq, rys⟩ := rx.tup'
      cases ry.int'
      have hne : ys ≠ [] := fun z => by
        have := rys.length
        rw [z] at this
        have e0 : xs = [] := List.eq_nil_of_length_eq_zero this
        rw [e0] at hk
        exact absurd hk.2.2 (by decide)
      refine .inr ⟨q, k, ys, rfl, rfl, .of hq, hne, hk.1, hk.2.1, ?_⟩
      split at p
      · rename_i h1
        exact .inl ⟨of_decide_eq_true h1, p.now e r _ (rv_tup hq rys)⟩
      · rename_i h1
        have h1 := of_decide_eq_false h1
        exact .inr ⟨by omega, fun b hb => p.now (e.trans (ext_new hb)) (r.new hb) _ (rv_tup upd_same .nil)⟩
    · exact .inl (bo_mul e r rx ry p)
  · exact .inl (bo_mul e r rx ry p)
end Ev

/-! sets of tuples of any depth (ints, texts, None inside); the tables' plain facts are the library's (TabOk) -/
namespace Ev
open PySem PySem.Spec L2
open PyProof.Rows hiding St
theorem all_mem {h : Heap} : ∀ {ks : List NestedKey} {vs : List Value}, NestedAll h ks vs → ∀ v ∈ vs, ∃ k, NestedIs h k v ∧ k.depth ≤ NestedKey.depthAll ks
  | _, _, .nil, v, m => nomatch m
  | _, _, .cons (k := k) (ks := ks) a r, v, m => by
    unfold NestedKey.depthAll
    rcases List.mem_cons.mp m with e | m
    · exact ⟨k, e ▸ a, Nat.le_max_left _ _⟩
    · obtain ⟨k', h1, h2⟩ := all_mem r v m
      exact ⟨k', h1, Nat.le_trans h2 (Nat.le_max_right _ _)⟩
section
variable {P : Program} {w : World}
theorem ns_cls : ∀ (n : Nat) (k : NestedKey) (v : Value) (s : Shared), NestedIs s.heap k v → k.depth ≤ n → ∀ (A : Around) (E : Value → Shared → Prop) (Q : Bool → Shared → Prop), Q false s → wpAny (model P w) A (ofAClassStatement n v) Q E s
  | n, _, _, s, .none, _, A, E, Q, q => by cases n <;> exact pur q
  | n, _, _, s, .bool _, _, A, E, Q, q => by cases n <;> exact pur q
  | n, _, _, s, .int _ _, _, A, E, Q, q => by cases n <;> exact pur q
  | n, _, _, s, .text _ _, _, A, E, Q, q => by cases n <;> exact pur q
  | 0, _, _, s, .tup (ks := ks) _ _ _ _, hd, A, E, Q, q => by unfold NestedKey.depth at hd; omega
  | n + 1, _, _, s, .tup (ks := ks) (a := b) (o := o) (vs := vs) (n := m) ho hc ht hi, hd, A, E, Q, q => by
    unfold NestedKey.depth at hd
    have tz : s.TypeIs (.ref b) "tuple" := ⟨o, ho, hc⟩
    unfold ofAClassStatement; refine bnd (wpAny_typeOf tz ?_)
    dsimp only
    have e : (("tuple" : String) == "tuple") = true := (by decide)
    simp only [e, if_true, Bool.not_true, Bool.false_eq_true, if_false]; try refine bnd (pur ?_)
    try simp only [Bool.not_true, Bool.false_eq_true, if_false]; show wpAny _ _ (seqItems? (.ref b) >>= _) _ _ s; refine bnd (wpAny_seqItems ho ht ?_)
    dsimp only
    refine bnd ?_
    show wpAny _ _ (forIn vs _ _) _ _ s; rw [← Array.forIn_toList]
    refine wpAny_forIn_list _ (fun rest r u => r.1 = none ∧ u = s ∧ ∀ v ∈ rest, ∃ k, NestedIs s.heap k v ∧ k.depth ≤ n) _ ?turn ?fin _ _ ⟨rfl, rfl, fun v mv => by obtain ⟨k, h1, h2⟩ := all_mem hi v mv; exact ⟨k, h1, by omega⟩⟩
    case turn =>
      intro v rest r u ⟨hr, eu, al⟩
      subst eu
      obtain ⟨k, h1, h2⟩ := al v List.mem_cons_self
      refine bnd (ns_cls n k v u h1 h2 _ _ _ ?_)
      simp only [Bool.false_eq_true, if_false]; exact pur ⟨rfl, rfl, fun x mx => al x (List.mem_cons_of_mem _ mx)⟩
    case fin =>
      rintro ⟨r1, r2⟩ u ⟨hr, eu, _⟩
      subst eu
      simp only at hr
      subst hr
      exact pur q
theorem ns_hby : ∀ (n : Nat) (k : NestedKey) (v : Value) (s : Shared), NestedIs s.heap k v → k.depth ≤ n → ∀ (A : Around) (E : Value → Shared → Prop) (Q : Bool → Shared → Prop), (∀ b, Q b s) → wpAny (model P w) A (hashByValue n v) Q E s
  | n, _, _, s, .none, _, A, E, Q, q => by cases n <;> exact pur (q _)
  | n, _, _, s, .bool _, _, A, E, Q, q => by cases n <;> exact pur (q _)
  | n, _, _, s, .int _ _, _, A, E, Q, q => by cases n <;> exact pur (q _)
  | n, _, _, s, .text _ _, _, A, E, Q, q => by cases n <;> exact pur (q _)
  | 0, _, _, s, .tup (ks := ks) _ _ _ _, hd, A, E, Q, q => by unfold NestedKey.depth at hd; omega
  | n + 1, _, _, s, .tup (ks := ks) (a := b) (o := o) (vs := vs) (n := m) ho hc ht hi, hd, A, E, Q, q => by
    unfold NestedKey.depth at hd
    have tz : s.TypeIs (.ref b) "tuple" := ⟨o, ho, hc⟩
    unfold hashByValue; refine bnd (wpAny_specialOf tz F.slot_tuple_hash.lookup ?_)
    show wpAny _ _ (seqItems? (.ref b) >>= _) _ _ s; refine bnd (wpAny_seqItems ho ht ?_)
    refine bnd ?_
    show wpAny _ _ (forIn vs _ _) _ _ s; rw [← Array.forIn_toList]
    refine wpAny_forIn_list _ (fun rest r u => u = s ∧ ∀ v ∈ rest, ∃ k, NestedIs s.heap k v ∧ k.depth ≤ n) _ ?turn ?fin _ _ ⟨rfl, fun v mv => by obtain ⟨k, h1, h2⟩ := all_mem hi v mv; exact ⟨k, h1, by omega⟩⟩
    case turn =>
      intro v rest r u ⟨eu, al⟩
      subst eu
      obtain ⟨k, h1, h2⟩ := al v List.mem_cons_self
      refine bnd (ns_hby n k v u h1 h2 _ _ _ fun c => ?_)
      cases c with
      | true =>
        simp only [Bool.not_true, Bool.false_eq_true, if_false]; exact pur ⟨rfl, fun x mx => al x (List.mem_cons_of_mem _ mx)⟩
      | false =>
        simp only [Bool.not_false, if_true]; exact pur (pur (q _))
    case fin =>
      rintro ⟨r1, r2⟩ u ⟨eu, _⟩
      subst eu
      cases r1 with
      | none => exact pur (q _)
      | some c => exact pur (q _)
/-! ### the set -/
abbrev IsN (h : Heap) (k : NestedKey) (a : Addr) : Prop := NestedIs h k (.ref a) ∧ k.depth ≤ 8
def rowsN (w : World) (L : List (NestedKey × Addr)) : List (Int × Value) := L.map fun p => (p.1.hash w, .ref p.2)
def hsN (w : World) (L : List (NestedKey × Addr)) : List Int := L.map fun p => p.1.hash w
structure NSet (w : World) (h : Heap) (a : Addr) (L : List (NestedKey × Addr)) (es : Array (Int × Value)) (ep : Nat) (t : SetTable) : Prop where
  obj : ∃ o, h.get? a = some o ∧ o.ExactSet ∧ o.data = .set es ep t
  row : es.toList = rowsN w L
  tab : TabOk t (hsN w L)
  uni : (L.map (·.1)).Nodup
  isn : ∀ p ∈ L, IsN h p.1 p.2
  ord : w.params.followText "set-order" = true ∨ t.led = true
  lax : L.length * 5 < t.mask * 3
  few : L.length < 64
abbrev pth (m : Nat) (h : Int) (c : Nat) : SetTable.Probe := nth m (runAt m (SetTable.bits h % (m + 1)) (SetTable.bits h)) c
theorem pth_add (m : Nat) (h : Int) (c q : Nat) : nth m (pth m h c) q = pth m h (c + q) := (nth_add m c _ q).symm
theorem pth_clean (m : Nat) (h : Int) (c : Nat) : (pth m h c).dummy = none := by
  have key : ∀ (n : Nat) (p : SetTable.Probe), p.dummy = none → (nth m p n).dummy = none := by
    intro n
    induction n with
    | zero => exact fun p q => q
    | succ n ih => exact fun p q => ih (adv m p) (by unfold adv; split <;> exact q)
  exact key c _ rfl
theorem rows_len {w : World} {L : List (NestedKey × Addr)} {es : Array (Int × Value)} (h : es.toList = rowsN w L) : es.size = L.length := by
  have q := congrArg List.length h
  unfold rowsN at q
  rwa [Array.length_toList, List.length_map] at q
theorem rows_at {w : World} {L : List (NestedKey × Addr)} {es : Array (Int × Value)} (h : es.toList = rowsN w L) {i : Nat} {p : NestedKey × Addr} (e : L[i]? = some p) : es[i]? = some (p.1.hash w, .ref p.2) := by
  rw [← Array.getElem?_toList, h]
  unfold rowsN
  rw [List.getElem?_map, e]; rfl
section
variable {A : Around} {E : Value → Shared → Prop} {s : Shared} {a : Addr} {L : List (NestedKey × Addr)} {es : Array (Int × Value)} {ep : Nat} {t : SetTable}
theorem NSet.fit (R : NSet w s.heap a L es ep t) : t.fits es.size = true := by
  have h1 : t.place.size = L.length := by rw [R.tab.sz]; unfold hsN; rw [List.length_map]
  have h2 := rows_len R.row
  have h3 := R.lax
  unfold SetTable.fits SetTable.fill; rw [R.tab.dm, Bool.and_eq_true, beq_iff_eq, decide_eq_true_eq]; exact ⟨h1.trans h2.symm, by show t.place.size + 0 ≤ t.mask; omega⟩
/-- asking for equality among keys shows nothing -/
theorem ns_unseen {k : NestedKey} {b : Addr} {Q : Bool → Shared → Prop} (hk : IsN s.heap k b) {ys : List Value} (hy : ∀ y ∈ ys, ∃ k' c, y = Value.ref c ∧ IsN s.heap k' c) (q : Q false s) : wpAny (model P w) A (searchCouldBeSeen (.ref b) ys) Q E s := by
  unfold searchCouldBeSeen; refine bnd ?_
  refine wpAny_forIn_list _ (fun rest r u => r.1 = none ∧ u = s ∧ ∀ y ∈ rest, ∃ k' c, y = Value.ref c ∧ IsN s.heap k' c) _ ?turn ?fin _ _ ⟨rfl, rfl, hy⟩
  case turn =>
    intro v rest r u ⟨hr, eu, al⟩
    subst eu
    obtain ⟨k', c, rfl, hc⟩ := al v List.mem_cons_self
    have al2 : ∀ y ∈ rest, ∃ k' c, y = Value.ref c ∧ IsN u.heap k' c := fun x mx => al x (List.mem_cons_of_mem _ mx)
    dsimp only
    by_cases same : (b == c || (carriedByValue (.ref b) && carriedByValue (.ref c))) = true
    · exact wp_if_pos same (pur ⟨rfl, rfl, al2⟩)
    · refine wp_if_neg same ?_
      refine bnd ((nestedKind P w).quiet hk ?_); simp only [Bool.not_true, Bool.false_eq_true, if_false]
      refine bnd ((nestedKind P w).quiet hc ?_); simp only [Bool.not_true, Bool.false_eq_true, if_false]
      refine bnd (ns_cls 8 k _ u hk.1 hk.2 _ _ _ ?_); simp only [Bool.false_eq_true, if_false]
      refine bnd (ns_cls 8 k' _ u hc.1 hc.2 _ _ _ ?_); simp only [Bool.false_eq_true, if_false]
      exact pur ⟨rfl, rfl, al2⟩
  case fin =>
    rintro ⟨r1, r2⟩ u ⟨hr, eu, _⟩
    subst eu
    simp only at hr
    subst hr
    exact pur q
theorem ns_search (R : NSet w s.heap a L es ep t) {x : Addr} {k : NestedKey} (hx : IsN s.heap k x) (hu : A.units + 8 < cLine) {K : Nat} (kf : K < 10 * SetTable.turns t.mask)
    (ke : way t.mask (k.hash w) K ∉ t.place.toList) (kb : ∀ c, c < K → way t.mask (k.hash w) c ∈ t.place.toList) {Q : SetFound → Shared → Prop}
    (yes : k ∈ L.map (·.1) → Q (.there none) s) (no : k ∉ L.map (·.1) → Q (.free (way t.mask (k.hash w) K) false) s) :
    ∀ (f c : Nat) (from_ : Option SetTable.Probe), from_.getD (t.probeStart (k.hash w)) = pth t.mask (k.hash w) c → c ≤ K → K - c < f →
      (∀ (i : Nat) p, L[i]? = some p → p.1 = k → ∃ c', c ≤ c' ∧ c' < K ∧ t.place.toList[i]? = some (way t.mask (k.hash w) c')) →
      wpAny (model P w) A (setSearchFrom a (.ref x) (k.hash w) true f from_) Q E s
  | 0, _, _, _, _, hf, _ => absurd hf (Nat.not_lt_zero _)
  | f + 1, c, from_, hst, hc, hf, ahead => by
    obtain ⟨o, ho, hex, hd⟩ := R.obj
    have even : ¬ t.gaveWay = true := by
      unfold SetTable.gaveWay
      rw [mask_odd R.tab.mok]
      decide
    rw [setSearchFrom_succ]; refine bnd (wpAny_setState_of ho hd R.fit ?_)
    dsimp only
    refine wp_if_neg even ?_
    try refine bnd (pur ?_)
    have hat : ∀ (i : Nat) p, L[i]? = some p → (es[i]?.map (·.1)).getD 0 = p.1.hash w := fun i p e => by rw [rows_at R.row e]; rfl
    have found := go_spec t R.tab.ris R.tab.dm (fun i => (es[i]?.map (·.1)).getD 0) (k.hash w) (10 * SetTable.turns t.mask) (K - c) (pth t.mask (k.hash w) c) (pth_clean _ _ _) (by omega)
      (fun q hq => by rw [pth_add]; exact kb (c + q) (by omega)) (by rw [pth_add, show c + (K - c) = K by omega]; exact ke)
    rcases found with ⟨q, i, hq, hi, _, clear, hpr⟩ | ⟨clear, hpr⟩
    · rw [pth_add] at hi
      rw [pth_add, pth_add] at hpr
      have hpr' : t.probe (fun i => (es[i]?.map (·.1)).getD 0) (k.hash w) (from_.getD (t.probeStart (k.hash w))) = some (.candidate (pth t.mask (k.hash w) (c + q)).j i (pth t.mask (k.hash w) (c + (q + 1)))) := by rw [hst]; exact hpr
      rw [hpr']
      dsimp only
      have hil : i < L.length := by
        have h1 : i < t.place.toList.length := (List.getElem?_eq_some_iff.mp hi).1; have h2 : t.place.size = L.length := by rw [R.tab.sz]; unfold hsN; rw [List.length_map]
        rw [Array.length_toList] at h1; omega
      have hp : L[i]? = some L[i] := (List.getElem?_eq_getElem hil)
      generalize L[i] = p at hp
      have mem : p ∈ L := List.mem_of_getElem? hp
      have more : wpAny (model P w) A (searchRest a (.ref x) (k.hash w) true f es t (pth t.mask (k.hash w) (c + q)).j i (pth t.mask (k.hash w) (c + (q + 1)))) Q E s := by
        unfold searchRest
        rw [rows_at R.row hp]
        dsimp only
        refine bnd (wpAny_holding ((nestedKind P w).eqBool hu (R.isn p mem) hx ?_)); refine bnd (wpAny_setState_of ho hd R.fit ?_)
        dsimp only
        by_cases same : p.1 = k
        · exact wp_if_pos (by simp [same]) (pur (yes (List.mem_map.mpr ⟨p, mem, same⟩)))
        · refine wp_if_neg (by simp [same]) ?_
          try refine bnd (pur ?_)
          rw [sameMem]
          dsimp only
          have live : t.slot (pth t.mask (k.hash w) (c + q)).j = .live i := slot_live R.tab.ris hi
          simp only [if_true, live, rows_at R.row hp]
          refine bnd (wpAny_isSame_ref_self (bnd (pur ?_))); simp only [if_true]
          refine wp_if_neg (by simp [same]) ?_
          refine ns_search R hx hu kf ke kb yes no f (c + (q + 1)) _ rfl (by omega) (by omega) fun i0 p0 h0 e0 => ?_
          obtain ⟨c', a1, a2, a3⟩ := ahead i0 p0 h0 e0
          refine ⟨c', ?_, a2, a3⟩
          rcases Nat.lt_trichotomy c' (c + q) with z | z | z
          · exact absurd ((hat i0 p0 h0).trans (by rw [e0])) (clear (c' - c) i0 (by omega) (by rw [pth_add, show c + (c' - c) = c' by omega]; exact a3))
          · rw [z] at a3
            have s0 := (slot_live R.tab.ris a3)
            rw [live] at s0
            injection s0 with s0
            rw [← s0, hp] at h0
            exact absurd ((congrArg Prod.fst (Option.some.inj h0)).trans e0) same
          · omega
      by_cases hl : t.led = true
      · refine wp_if_neg (by simp [hl]) ?_; try refine bnd (pur ?_)
        exact more
      · refine wp_if_pos (by simp [hl]) ?_; refine bnd (ns_unseen hx (fun y hy => ?_) ?_)
        · obtain ⟨e, he, ee⟩ := List.mem_map.mp hy; have he1 : e ∈ es ∧ e.1 = k.hash w := by simpa using he
          have he2 : e ∈ es.toList := (by simpa using he1.1)
          rw [R.row] at he2
          obtain ⟨p2, hp2, e2⟩ := List.mem_map.mp he2; exact ⟨p2.1, p2.2, by rw [← ee, ← e2], R.isn p2 hp2⟩
        · refine wp_if_neg (by decide) ?_; try refine bnd (pur ?_)
          exact more
    · rw [pth_add, show c + (K - c) = K by omega] at hpr
      have hpr' : t.probe (fun i => (es[i]?.map (·.1)).getD 0) (k.hash w) (from_.getD (t.probeStart (k.hash w))) = some (.empty (way t.mask (k.hash w) K) none) := by rw [hst]; exact hpr
      rw [hpr']
      dsimp only
      refine pur (no fun hm => ?_)
      obtain ⟨p0, m0, e0⟩ := List.mem_map.mp hm
      obtain ⟨i0, hi0, g0⟩ := List.getElem_of_mem m0
      have h0 : L[i0]? = some p0 := by rw [List.getElem?_eq_getElem hi0, g0]
      obtain ⟨c', a1, a2, a3⟩ := ahead i0 p0 h0 e0
      exact absurd ((hat i0 p0 h0).trans (by rw [e0])) (clear (c' - c) i0 (by omega) (by rw [pth_add, show c + (c' - c) = c' by omega]; exact a3))
theorem ns_find (R : NSet w s.heap a L es ep t) {x : Addr} {k : NestedKey} (hx : IsN s.heap k x) (hu : A.units + 8 < cLine) {Q : SetFound → Shared → Prop}
    (yes : k ∈ L.map (·.1) → Q (.there none) s)
    (no : ∀ K, k ∉ L.map (·.1) → way t.mask (k.hash w) K ∉ t.place.toList → (∀ c, c < K → way t.mask (k.hash w) c ∈ t.place.toList) → Q (.free (way t.mask (k.hash w) K) false) s) :
    wpAny (model P w) A (setSearch a (.ref x) (k.hash w) true) Q E s := by
  have lax := R.lax
  have hl : (hsN w L).length = L.length := by unfold hsN; rw [List.length_map]
  obtain ⟨K, kf, ke, kb⟩ := R.tab.first (by rw [hl]; omega) (k.hash w)
  have big : 10 * SetTable.turns t.mask ≤ 1420 := by
    unfold SetTable.turns; rcases R.tab.mok with e | e | e <;> omega
  unfold setSearch
  refine ns_search R hx hu kf ke kb yes (fun hn => no K hn ke kb) 100000 0 none rfl (Nat.zero_le _) (by omega) fun i p hp hk => ?_
  have hi : (hsN w L)[i]? = some (k.hash w) := by unfold hsN; rw [List.getElem?_map, hp, ← hk]; rfl
  have il : i < t.place.toList.length := by
    have h1 : i < L.length := (List.getElem?_eq_some_iff.mp hp).1; rw [Array.length_toList, R.tab.sz, hl]
    exact h1
  obtain ⟨c, c1, c2⟩ := R.tab.before ke hi (List.getElem?_eq_getElem il)
  exact ⟨c, Nat.zero_le _, c1, by rw [List.getElem?_eq_getElem il, c2]⟩
end
end
end Ev

/-! adding to such a set -/
namespace Ev
open PySem PySem.Spec L2
open PyProof.Rows hiding St
theorem len_hs {w : World} {L : List (NestedKey × Addr)} : (hsN w L).length = L.length := by unfold hsN; rw [List.length_map]
theorem isn_same {h h' : Heap} {k : NestedKey} {a b : Addr} {o : Obj} {es : Array (Int × Value)} {ep : Nat} {t : SetTable} (x : IsN h k b) (ho : h.get? a = some o) (hd : o.data = .set es ep t) (sb : Heap.SameBut a h h') : IsN h' k b :=
  ⟨NestedIs.at (fun c ob vs n hc hv => (sb.2 c fun e => by subst e; rw [ho] at hc; cases hc; rw [hd] at hv; cases hv).trans hc) k _ x.1, x.2⟩
theorem isn_up {h h' : Heap} {k : NestedKey} {b : Addr} (x : IsN h k b) (up : ∀ c o, h.get? c = some o → h'.get? c = some o) : IsN h' k b :=
  ⟨NestedIs.at (fun c ob vs n hc _ => up c ob hc) k _ x.1, x.2⟩
/-- rows in another order -/
theorem rows_order {w : World} (L : List (NestedKey × Addr)) (es : Array (Int × Value)) (order : Array Nat) (hr : es.toList = rowsN w L) (hp : order.toList.Perm (List.range L.length)) :
    ∃ L2, (order.filterMap (es[·]?)).toList = rowsN w L2 ∧ L2.Perm L ∧ hsN w L2 = order.toList.map fun i => (es.map (·.1)).getD i 0 := by
  have sz := rows_len hr
  have step : ∀ l : List Nat, (∀ i ∈ l, i < L.length) → l.filterMap (fun i => es[i]?) = rowsN w (l.filterMap fun i => L[i]?) ∧ hsN w (l.filterMap fun i => L[i]?) = l.map fun i => (es.map (·.1)).getD i 0 := by
    intro l
    induction l with
    | nil => intro _; exact ⟨rfl, rfl⟩
    | cons i l ih =>
      intro hl
      have hi := (hl i List.mem_cons_self)
      have g := List.getElem?_eq_getElem hi
      obtain ⟨e1, e2⟩ := ih fun j hj => hl j (List.mem_cons_of_mem _ hj)
      constructor
      · rw [List.filterMap_cons_some (rows_at hr g), List.filterMap_cons_some g, e1]; rfl
      · rw [List.filterMap_cons_some g, List.map_cons, ← e2]
        have e5 : (es.map (·.1))[i]? = some ((L[i]).1.hash w) := by rw [Array.getElem?_map, rows_at hr g]; rfl
        have e4 : (es.map (·.1)).getD i 0 = (L[i]).1.hash w := by simp [Array.getD_eq_getD_getElem?, e5]
        rw [e4]; rfl
  obtain ⟨e1, e2⟩ := step order.toList fun i hi => List.mem_range.mp (hp.mem_iff.mp hi)
  refine ⟨_, by first | (rw [Array.toList_filterMap]; exact e1) | simpa using e1, ?_, e2⟩
  have whole : ∀ n, n ≤ L.length → (List.range n).filterMap (fun i => L[i]?) = L.take n := by
    intro n
    induction n with
    | zero => intro _; rfl
    | succ n ih =>
      intro hn
      have lt : n < L.length := hn
      rw [List.range_succ, List.filterMap_append, ih (Nat.le_of_lt lt), List.take_succ, List.getElem?_eq_getElem lt, List.filterMap_cons_some (List.getElem?_eq_getElem lt)]; rfl
  have q := hp.filterMap fun i => L[i]?
  rwa [whole L.length (Nat.le_refl _), List.take_length] at q
section
variable {P : Program} {w : World} {A : Around} {E : Value → Shared → Prop} {s : Shared} {a : Addr} {L : List (NestedKey × Addr)} {es : Array (Int × Value)} {ep : Nat} {t : SetTable}
theorem ns_relay {o : Obj} (ho : s.heap.get? a = some o) (hex : o.ExactSet) (hd : o.data = .set es ep t) (row : es.toList = rowsN w L) (ps : t.place.size = es.size) (dm : t.dummies = #[]) (fl : es.size ≤ t.mask)
    (uni : (L.map (·.1)).Nodup) (isn : ∀ p ∈ L, IsN s.heap p.1 p.2) (ord : w.params.followText "set-order" = true ∨ t.led = true) (few : L.length < 64) {wanted M : Nat} (hw : SetTable.sizeAbove wanted - 1 = M) (hM : MaskOk M) (hw2 : SetTable.sizeAbove wanted ≤ 128) (hn : L.length * 5 < M * 3) {Q : Unit → Shared → Prop}
    (hQ : ∀ h' L' es' ep' t', Heap.SameBut a s.heap h' → NSet w h' a L' es' ep' t' → L'.Perm L → Q () { s with heap := h' }) : wpAny (model P w) A (setRelay a wanted) Q E s := by
  have sz := rows_len row
  have fit : t.fits es.size = true := by
    unfold SetTable.fits SetTable.fill; rw [dm, Bool.and_eq_true, beq_iff_eq, decide_eq_true_eq]
    exact ⟨ps, by show t.place.size + 0 ≤ t.mask; omega⟩
  obtain ⟨t', order, e, hp, T, em, el, _, _⟩ := relaid_ok t (hs := es.map (·.1)) (wanted := wanted) hw hM (by rw [Array.size_map, sz]; omega)
  rw [Array.size_map, sz] at hp
  obtain ⟨L2, r1, r2, r3⟩ := rows_order L es order row hp
  rw [← r3] at T
  have s2 : (order.filterMap (es[·]?)).size = es.size := (rows_len r1).trans (r2.length_eq.trans sz.symm)
  rw [setRelay_eq]; refine bnd (wpAny_setState_of ho hd fit ?_)
  dsimp only
  refine wp_if_neg (by rw [sizeLine_eq]; omega) ?_; try refine bnd (pur ?_)
  rw [e]
  dsimp only
  refine bnd ?_
  refine wp_if_neg (by rw [s2]; simp) ?_
  try refine bnd (pur ?_)
  refine pur ?_
  dsimp only
  refine wpAny_storeSet_of ho hd ?_ (by rw [s2, sz, sizeLine_eq]; omega)
  have sb : Heap.SameBut a s.heap (s.heap.update a (Obj.putSet (order.filterMap (es[·]?)) t')) := (Heap.SameBut.update ..)
  exact hQ _ L2 (order.filterMap (es[·]?)) (ep + 1) t' sb ⟨⟨_, store_at ho hd, ⟨hex.1, hex.2.1, hex.2.2⟩, rfl⟩, r1, T, (r2.map (·.1)).nodup_iff.mpr uni, fun p hpm => isn_same (isn p (r2.mem_iff.mp hpm)) ho hd sb, by rw [el]; exact ord, by rw [r2.length_eq, em]; exact hn, by rw [r2.length_eq]; exact few⟩ r2
theorem tab_plain {t : SetTable} {hs : List Int} {b : Bool} (T : TabOk t hs) : TabOk { t with plain := b } hs := ⟨T.ris, T.dm, T.sz, T.mok, T.bd, T.reach⟩
theorem ns_add (R : NSet w s.heap a L es ep t) {x : Addr} {k : NestedKey} (hx : IsN s.heap k x) (hu : A.units + 8 < cLine) (few : L.length + 1 < 64) {Q : Bool → Shared → Prop}
    (hQ : ∀ b h' L' es' ep' t', Heap.SameBut a s.heap h' → NSet w h' a L' es' ep' t' → (k ∈ L.map (·.1) → L' = L) → (k ∉ L.map (·.1) → L'.Perm ((k, x) :: L)) → Q b { s with heap := h' }) :
    wpAny (model P w) A (setAddHashed a (.ref x) (k.hash w)) Q E s := by
  obtain ⟨o, ho, hex, hd⟩ := R.obj
  have sz := rows_len R.row
  have lax := R.lax
  unfold setAddHashed; refine wpAny_holding ?_
  rw [show (100000 : Nat) = 99999 + 1 from rfl, setAddHashedIn_succ]; refine bnd (wpAny_setState_of ho hd R.fit ?_)
  dsimp only
  refine wp_if_neg (by simp [byScan, Value.scannable]) ?_; try refine bnd (pur ?_)
  refine bnd (ns_find R hx hu (fun hm => ?_) fun K hm hK hb => ?_)
  · dsimp only
    exact pur (hQ false s.heap L es ep t (Heap.SameBut.refl a s.heap) R (fun _ => rfl) fun z => absurd hm z)
  · dsimp only
    refine bnd (wpAny_setState_of ho hd R.fit ?_)
    dsimp only
    obtain ⟨q1, q2, q3, q4, q5, q6, _, _, q9⟩ := R.tab.put hK hb
    generalize t.put (way t.mask (k.hash w) K) = pt at q1 q3 q4 q5 q6 q9 ⊢
    obtain ⟨t1, p⟩ := pt
    dsimp only at q1 q3 q4 q5 q6 q9 ⊢
    subst q1
    have fin : ∀ (t2 : SetTable), TabOk t2 ((hsN w L).take (SetTable.below t.place (way t.mask (k.hash w) K)) ++ k.hash w :: (hsN w L).drop (SetTable.below t.place (way t.mask (k.hash w) K))) → t2.mask = t.mask → t2.led = t.led → t2.fill = (hsN w L).length + 1 →
        wpAny (model P w) A (storeSet a (SetTable.insertAt es (SetTable.below t.place (way t.mask (k.hash w) K)) (k.hash w, .ref x)) t2 >>= fun _ => if (!false && t2.tooFull) = true then (setRelay a (SetTable.grown (es.size + 1)) >>= fun _ => pure true) else pure true) Q E s := fun t2 T2 em el ef => by
      generalize SetTable.below t.place (way t.mask (k.hash w) K) = p at T2 q2 ⊢
      have row : (SetTable.insertAt es p (k.hash w, .ref x)).toList = rowsN w (L.take p ++ (k, x) :: L.drop p) := by
        rw [SetTable.toList_insertAt, R.row]
        unfold rowsN; rw [List.map_append, List.map_cons, List.map_take, List.map_drop]
      have pm := put_perm L p (k, x)
      have len1 : (L.take p ++ (k, x) :: L.drop p).length = L.length + 1 := pm.length_eq
      have hh : (hsN w L).take p ++ k.hash w :: (hsN w L).drop p = hsN w (L.take p ++ (k, x) :: L.drop p) := by
        unfold hsN; rw [List.map_append, List.map_cons, List.map_take, List.map_drop]
      rw [hh] at T2
      have uni1 : ((L.take p ++ (k, x) :: L.drop p).map (·.1)).Nodup := (pm.map (·.1)).nodup_iff.mpr (by rw [List.map_cons]; exact List.nodup_cons.mpr ⟨hm, R.uni⟩)
      have esz := (rows_len row).trans len1
      generalize SetTable.insertAt es p (k.hash w, Value.ref x) = es1 at row esz ⊢
      generalize L.take p ++ (k, x) :: L.drop p = L1 at pm len1 T2 uni1 row
      refine bnd (wpAny_storeSet_of ho hd ?_ (by rw [esz, sizeLine_eq]; omega))
      have sb : Heap.SameBut a s.heap (s.heap.update a (Obj.putSet es1 t2)) := Heap.SameBut.update ..
      have ho1 := (store_at (es' := es1) (t' := t2) ho hd)
      generalize s.heap.update a (Obj.putSet es1 t2) = m1 at sb ho1 ⊢
      have isn1 : ∀ p ∈ L1, IsN m1 p.1 p.2 := fun p hp => by
        obtain e | hp := List.mem_cons.mp (pm.mem_iff.mp hp)
        · rw [e]; exact isn_same hx ho hd sb
        · exact isn_same (R.isn p hp) ho hd sb
      have ord1 : w.params.followText "set-order" = true ∨ t2.led = true := by rw [el]; exact R.ord
      by_cases full : t2.tooFull = true
      · have big : (L.length + 1) * 5 ≥ t2.mask * 3 := by
          have h := full
          unfold SetTable.tooFull at h
          rwa [decide_eq_true_eq, ef, len_hs] at h
        have two : (t.mask = 7 ∧ L.length = 4) ∨ (t.mask = 31 ∧ L.length = 18) := by
          rw [em] at big; rcases R.tab.mok with e | e | e
          · rw [e] at big lax; exact .inl ⟨e, by omega⟩
          · rw [e] at big lax; exact .inr ⟨e, by omega⟩
          · rw [e] at big; omega
        have ps : t2.place.size = es1.size := by rw [T2.sz, len_hs, len1, esz]
        have laid : ∀ M, SetTable.sizeAbove (SetTable.grown (L.length + 1)) - 1 = M → MaskOk M → SetTable.sizeAbove (SetTable.grown (L.length + 1)) ≤ 128 → (L.length + 1) * 5 < M * 3 →
            wpAny (model P w) A (setRelay a (SetTable.grown (L.length + 1))) (fun _ s' => wpAny (model P w) A (pure true) Q E s') E { s with heap := m1 } := fun M g1 g2 g3 g4 =>
          ns_relay (s := { s with heap := m1 }) ho1 ⟨hex.1, hex.2.1, hex.2.2⟩ rfl row ps T2.dm (by rw [esz, em]; rcases two with ⟨e, e2⟩ | ⟨e, e2⟩ <;> omega) uni1 isn1 ord1 (by rw [len1]; exact few) g1 g2 g3 (by rw [len1]; exact g4)
            fun m2 L2 es2 ep2 t3 sb2 R2 pm2 => pur (hQ true m2 L2 es2 ep2 t3 (sb.trans sb2) R2 (fun z => absurd z hm) fun _ => pm2.trans pm)
        refine wp_if_pos (by simp [full]) (bnd ?_)
        rw [sz]
        rcases two with ⟨_, e2⟩ | ⟨_, e2⟩
        · exact laid 31 (by rw [e2, size_20]) (.inr (.inl rfl)) (by rw [e2, size_20]; decide) (by omega)
        · exact laid 127 (by rw [e2, size_76]) (.inr (.inr rfl)) (by rw [e2, size_76]; decide) (by omega)
      · refine wp_if_neg (by simp [full]) ?_
        refine pur (hQ true m1 L1 es1 (ep + 1) t2 sb ⟨⟨_, ho1, ⟨hex.1, hex.2.1, hex.2.2⟩, rfl⟩, row, T2, uni1, isn1, ord1, ?_, by rw [len1]; exact few⟩ (fun z => absurd z hm) fun _ => pm)
        have h := full
        unfold SetTable.tooFull at h
        rw [decide_eq_true_eq, ef, len_hs] at h
        rw [len1]
        omega
    by_cases pl : t1.plain = true
    · refine wp_if_pos pl (bnd (ns_hby 8 k _ s hx.1 hx.2 _ _ _ fun b => ?_))
      cases b with
      | true => exact fin t1 q3 q4 q5 q9
      | false => exact fin { t1 with plain := false } (tab_plain q3) q4 q5 q9
    · refine wp_if_neg pl (bnd (pur ?_))
      exact fin t1 q3 q4 q5 q9
end
end Ev

/-! set(xs) of a list or a tuple of such keys -/
namespace Ev
open PySem PySem.Spec L2
open PyProof.Rows hiding St
/-- what is in the set after the first i -/
structure Had (ks : List (NestedKey × Addr)) (i : Nat) (L : List (NestedKey × Addr)) : Prop where
  sub : ∀ p ∈ L, p ∈ ks.take i
  all : ∀ p ∈ ks.take i, p.1 ∈ L.map (·.1)
  len : L.length ≤ i
theorem Had.next {ks L L' : List (NestedKey × Addr)} {i : Nat} {x : NestedKey × Addr} (g : Had ks i L) (h : ks[i]? = some x) (c1 : x.1 ∈ L.map (·.1) → L' = L) (c2 : x.1 ∉ L.map (·.1) → L'.Perm (x :: L)) : Had ks (i + 1) L' := by
  have tn : ks.take (i + 1) = ks.take i ++ [x] := take_next h
  rcases Classical.em (x.1 ∈ L.map (·.1)) with c | c
  · rw [c1 c]
    refine ⟨fun p hp => by rw [tn]; exact List.mem_append_left _ (g.sub p hp), fun p hp => ?_, Nat.le_succ_of_le g.len⟩
    rw [tn] at hp; rcases List.mem_append.mp hp with z | z
    · exact g.all p z
    · rw [List.mem_singleton.mp z]; exact c
  · have pm := c2 c; refine ⟨fun p hp => ?_, fun p hp => ?_, ?_⟩
    · rw [tn]; rcases List.mem_cons.mp (pm.mem_iff.mp hp) with e | z
      · rw [e]; exact List.mem_append.mpr (.inr (List.mem_singleton.mpr rfl))
      · exact List.mem_append.mpr (.inl (g.sub p z))
    · rw [(pm.map (·.1)).mem_iff, List.map_cons]
      rw [tn] at hp; rcases List.mem_append.mp hp with z | z
      · exact .tail _ (g.all p z)
      · exact List.mem_singleton.mp z ▸ List.mem_cons_self
    · rw [pm.length_eq, List.length_cons]; exact Nat.succ_le_succ g.len
abbrev freshS (w : World) : Obj := { cls := .type "set", dict := none, data := .set #[] 0 (.fresh 0 0 (!w.params.followText "set-order")) }
theorem ns_fresh {w : World} {h : Heap} {a : Addr} (ho : h.get? a = some (freshS w)) : NSet w h a [] #[] 0 (.fresh 0 0 (!w.params.followText "set-order")) where
  obj := ⟨_, ho, ⟨rfl, rfl, rfl⟩, rfl⟩
  row := rfl
  tab := ⟨.nil, rfl, rfl, .inl rfl, (fun x hx => nomatch hx), (fun i h j hi => by simp [hsN] at hi)⟩
  uni := List.nodup_nil
  isn := (fun p hp => nomatch hp)
  ord := by
    show _ ∨ (!w.params.followText "set-order") = true; cases w.params.followText "set-order" <;> simp
  lax := by show 0 * 5 < 7 * 3; decide
  few := by show 0 < 64; decide
section
variable {P : Program} {w : World} {s : Shared} {A : Around} {E : Value → Shared → Prop}
theorem NSet.up {h h' : Heap} {a : Addr} {L : List (NestedKey × Addr)} {es : Array (Int × Value)} {ep : Nat} {t : SetTable} (R : NSet w h a L es ep t) (ha : ∀ o, h.get? a = some o → h'.get? a = some o) (hi : ∀ p ∈ L, IsN h' p.1 p.2) : NSet w h' a L es ep t := by
  obtain ⟨o, ho, r⟩ := R.obj
  exact ⟨⟨o, ha o ho, r⟩, R.row, R.tab, R.uni, hi, R.ord, R.lax, R.few⟩
theorem code_fill {I : Addr} {fp wr : List Addr} {n : Nat} {Pv : Nat → Value → Prop} {St : Nat → Heap → Prop} {R : Result → Shared → Prop} (W : Walks P w A.in1 I fp wr n Pv St) (S : Addr) (hS : S ∉ fp) (ks : List (NestedKey × Addr)) (hn : n = ks.length) (few : ks.length < 64)
    (hv : ∀ i v, Pv i v → ∃ p, ks[i]? = some p ∧ v = .ref p.2) (h0 : Heap) (hk : ∀ p ∈ ks, IsN h0 p.1 p.2) (hS0 : h0.get? S = none) (hw0 : ∀ b ∈ wr, h0.get? b = none) (hu : A.units + 12 < cLine) :
    ∀ (k i : Nat) (s : Shared), n - i = k → i ≤ n → St i s.heap → (∀ b o, h0.get? b = some o → s.heap.get? b = some o) → (∃ L es ep t, NSet w s.heap S L es ep t ∧ Had ks i L) →
      (∀ m tk L es ep t, NSet w m S L es ep t → Had ks n L → (∀ b o, h0.get? b = some o → m.get? b = some o) → R (.ok (.ret .none)) { s with heap := m, toks := tk }) →
      codeAny (model P w) A (.builtin "set.update.loop" ⟨[.ref S, .ref I], []⟩) R s
  | 0, i, s, hk', hi, st, kp, ⟨L, es, ep, t, R0, g⟩, hR => by
    have e : i = n := by omega
    subst e
    refine codeAny_builtin F.entry_set_update_loop ?_; rw [Around.under_plainId F.plain_set_update_loop _]; show wpAny _ A.in1 (pyNext (.ref I) >>= _) _ _ s; refine bnd (W.done s _ _ st fun m tk km => ?_)
    have kp' : ∀ b o, h0.get? b = some o → m.get? b = some o := fun b o e => km b o (fun hb => by rw [hw0 b hb] at e; cases e) (kp b o e)
    exact pur (hR m tk L es ep t (R0.up (fun o e => km S o (fun hb => hS (W.sub _ hb)) e) fun p hp => isn_up (hk p (List.mem_of_mem_take (g.sub p hp))) kp') g kp')
  | k + 1, i, s, hk', hi, st, kp, ⟨L, es, ep, t, R0, g⟩, hR => by
    have lt : i < n := by omega
    refine codeAny_builtin F.entry_set_update_loop ?_; rw [Around.under_plainId F.plain_set_update_loop _]; show wpAny _ A.in1 (pyNext (.ref I) >>= _) _ _ s; refine bnd (W.item i s _ _ lt st fun v m tk hPv st' km => ?_)
    obtain ⟨p, hp, rfl⟩ := hv i v hPv
    have kp' : ∀ b o, h0.get? b = some o → m.get? b = some o := fun b o e => km b o (fun hb => by rw [hw0 b hb] at e; cases e) (kp b o e)
    have R1 : NSet w m S L es ep t := R0.up (fun o e => km S o (fun hb => hS (W.sub _ hb)) e) fun p hp => isn_up (hk p (List.mem_of_mem_take (g.sub p hp))) kp'
    have hx : IsN m p.1 p.2 := isn_up (hk p (List.mem_of_getElem? hp)) kp'
    have hu0 : A.in1.units ≤ A.units + 1 := by simp
    have hu1 : A.in1.units + 8 < cLine := by omega
    show wpAny _ A.in1 (holding [Value.ref p.2] (setAdd S (.ref p.2)) >>= _) _ _ { s with heap := m, toks := tk }; refine bnd (wpAny_holding ?_)
    unfold setAdd; refine wpAny_holding (bnd ((nestedKind P w).pyHash hu1 hx ?_))
    refine ns_add (s := { s with heap := m, toks := tk + p.1.draws }) R1 hx hu1 (by have := g.len; omega) fun b m2 L' es' ep' t' sb R2 c1 c2 => ?_
    have kp2 : ∀ b o, h0.get? b = some o → m2.get? b = some o := fun b o e => (sb.2 b (fun z => by rw [z, hS0] at e; cases e)).trans (kp' b o e)
    exact pur ⟨plainId_quiet F.plain_set_update_loop _, code_fill W S hS ks hn few hv h0 hk hS0 hw0 hu k (i + 1) _ (by omega) lt
      (W.frame _ m m2 st' fun b hb o e => (sb.2 b fun z => hS (z ▸ hb)).trans e) kp2 ⟨L', es', ep', t', R2, g.next hp c1 c2⟩ hR⟩
set_option maxHeartbeats 3100000 in
theorem call_set_by {b : Bool} {l : Addr} {items : Array Value} {G : Heap → Prop} {Q : Value → Shared → Prop} (hh : A.handled = none) (isq : IsSq b s.heap l items)
    (loop : ∀ (St : Nat → Heap → Prop) (R : Result → Shared → Prop) (it : Obj), Walks P w A.in1.in1.in1 (s.heap.push (freshS w)).objs.size [(s.heap.push (freshS w)).objs.size, l] [(s.heap.push (freshS w)).objs.size] items.size (fun i v => items[i]? = some v) St → St 0 ((s.heap.push (freshS w)).push it) →
      (∀ m tk, G m → (∀ b o, s.heap.get? b = some o → m.get? b = some o) → R (.ok (.ret .none)) { s with heap := m, toks := tk }) →
      codeAny (model P w) A.in1.in1 (.builtin "set.update.loop" ⟨[.ref s.heap.objs.size, .ref (s.heap.push (freshS w)).objs.size], []⟩) R { s with heap := (s.heap.push (freshS w)).push it })
    (h : ∀ (h' : Heap) (tk : Nat), G h' → (∀ b o, s.heap.get? b = some o → h'.get? b = some o) → Q (.ref s.heap.objs.size) { s with heap := h', toks := tk }) : wpAny (model P w) A (call (.type "set") [.ref l]) Q E s := by
  have ll : l < s.heap.objs.size := isq.lt
  obtain ⟨c, tl, hmro⟩ := F.called_set.mro; have hmade := (F.called_set.made)
  have hsub := F.called_set.sub
  have h1 := (F.called_set.notType)
  have h2 := (F.called_set.canCreate)
  have hct := (F.typeCall_set_1 (.ref l))
  refine wpAny_call (codeAny_of_tree ?_); show wpAny _ _ (callAny (.type "set") _) _ _ _
  refine pur ⟨Code.quiet_builtin _ (by decide +kernel), codeAny_builtin F.entry_type_call ?_⟩
  rw [Around.under_plain (weight_type_call_type "set" [.ref l] []) rfl]; repeat (any_goals (first | assumption | wp_step))
  refine codeAny_mono (code_set_led1 (.ref l) (E := E) (Q₁ := fun obj s₁ => obj = .ref s.heap.objs.size ∧ s₁ = { s with heap := s.heap.push (freshS w) }) ⟨rfl, rfl⟩) fun r s₁ hr => ?_
  cases r with
  | error e => exact hr
  | ok fl =>
    cases fl with
    | ret obj =>
      obtain ⟨rfl, rfl⟩ := hr
      have gS : (s.heap.push (freshS w)).get? s.heap.objs.size = some (freshS w) := Heap.get?_push_size _ rfl
      have tz : Shared.TypeIs { s with heap := s.heap.push (freshS w) } (.ref s.heap.objs.size) "set" := ⟨_, gS, rfl⟩
      have hli := (F.called_set.init.lookup)
      have hbi := (F.called_set.init.bind (.ref s.heap.objs.size))
      (repeat (any_goals (first | assumption | wp_step))); refine codeAny_mono (codeAny_call_builtin (R := wants (fun r s₂ => r = .none ∧ ∃ h' tk, s₂ = { s with heap := h', toks := tk } ∧ G h' ∧ (∀ b o, s.heap.get? b = some o → h'.get? b = some o)) E)
        F.called_set.init.plain F.entry_set_init (check_set_init_1 tz ?_)) fun r₂ s₂ hr₂ => ?_
      · have szI : (s.heap.push (freshS w)).objs.size = s.heap.objs.size + 1 := Heap.size_push ..
        have hh3 : A.in1.in1.in1.handled = none := (by simp [hh])
        have neI : l ≠ (s.heap.push (freshS w)).objs.size := by rw [szI]; exact Nat.ne_of_lt (Nat.lt_succ_of_lt ll)
        cases b with
        | true =>
          obtain ⟨ol, hol, hcl, nl, hdl⟩ := isq
          obtain ⟨ocls, odict, odata, oslots⟩ := ol; simp only at hcl hdl
          subst hcl; subst hdl
          have hol' : (s.heap.push (freshS w)).get? l = some { cls := .type "list", dict := odict, data := .seq items nl, slots := oslots } := Heap.get?_push_of_some _ hol
          have hsls := F.sub_list_set
          have hslf := (F.sub_list_frozenset)
          have hne : (Value.type "list" == Value.type "dict") = false := (by decide)
          have hl1 : (s.heap.push (freshS w)).IsList l items := ⟨_, hol', rfl, nl, rfl⟩
          unfold Builtin.«set.__init__» noKeywords Builtin.Frozenset.updateFrom; generalize hPI : pyIter = PI
          wp_walk
          subst hPI
          refine wpAny_pyIter_list hl1 (bnd (wpAny_runValue ?_))
          exact loop _ _ _ (Walks.list hh3 _ l neI items) ⟨⟨_, Heap.get?_push_size _ rfl, rfl, rfl⟩, hl1.push _⟩ fun m tk q1 q2 => pur (pur ⟨rfl, m, tk, rfl, q1, q2⟩)
        | false =>
          obtain ⟨ol, hol, hcl, nl, hdl⟩ := isq
          obtain ⟨ocls, odict, odata, oslots⟩ := ol; simp only at hcl hdl
          subst hcl; subst hdl
          have hol' : (s.heap.push (freshS w)).get? l = some { cls := .type "tuple", dict := odict, data := .seq items nl, slots := oslots } := Heap.get?_push_of_some _ hol
          have hsls := F.sub_tuple_set
          have hslf := (F.sub_tuple_frozenset)
          have hne : (Value.type "tuple" == Value.type "dict") = false := (by decide)
          have hl1 : (s.heap.push (freshS w)).IsTuple l items := ⟨_, hol', rfl, nl, rfl⟩
          unfold Builtin.«set.__init__» noKeywords Builtin.Frozenset.updateFrom; generalize hPI : pyIter = PI
          wp_walk
          subst hPI
          refine wpAny_pyIter_tuple hl1 (bnd (wpAny_runValue ?_))
          exact loop _ _ _ (Walks.tuple hh3 _ l neI items) ⟨⟨_, Heap.get?_push_size _ rfl, rfl, rfl⟩, hl1.push _⟩ fun m tk q1 q2 => pur (pur ⟨rfl, m, tk, rfl, q1, q2⟩)
      · cases r₂ with
        | error e => exact hr₂
        | ok fl₂ =>
          cases fl₂ with
          | ret r =>
            obtain ⟨rfl, h', tk, rfl, q1, q2⟩ := hr₂
            (repeat (any_goals (first | assumption | wp_step))); exact h _ _ q1 q2
          | _ => exact hr₂.elim
    | _ => exact hr.elim
theorem get_none {h : Heap} {b : Addr} (hb : h.objs.size ≤ b) : h.get? b = none := by
  cases q : h.get? b with
  | none => rfl
  | some o => exact absurd (Heap.lt_size q) (Nat.not_lt.mpr hb)
theorem call_setN {b : Bool} {l : Addr} {items : Array Value} (ks : List (NestedKey × Addr)) {Q : Value → Shared → Prop} (hh : A.handled = none) (isq : IsSq b s.heap l items) (hit : items.toList = ks.map fun p => Value.ref p.2)
    (hk : ∀ p ∈ ks, IsN s.heap p.1 p.2) (few : ks.length < 64) (hu : A.units + 16 < cLine)
    (h : ∀ (h' : Heap) (tk : Nat) L es ep t, NSet w h' s.heap.objs.size L es ep t → Had ks ks.length L → (∀ b o, s.heap.get? b = some o → h'.get? b = some o) → Q (.ref s.heap.objs.size) { s with heap := h', toks := tk }) : wpAny (model P w) A (call (.type "set") [.ref l]) Q E s := by
  have isz : items.size = ks.length := by
    have q := (congrArg List.length hit)
    rwa [Array.length_toList, List.length_map] at q
  have val : ∀ (i : Nat) (v : Value), items[i]? = some v → ∃ p, ks[i]? = some p ∧ v = .ref p.2 := fun i v hv => by
    have q : items.toList[i]? = some v := (by rw [Array.getElem?_toList]; exact hv)
    rw [hit, List.getElem?_map] at q; cases hq : ks[i]? with
    | none => (rw [hq] at q; cases q)
    | some p =>
      rw [hq] at q; exact ⟨p, rfl, (Option.some.inj q).symm⟩
  refine call_set_by (G := fun m => ∃ L es ep t, NSet w m s.heap.objs.size L es ep t ∧ Had ks ks.length L) hh isq (fun St R it Wk st hR => ?_) fun m tk ⟨L, es, ep, t, q1, q2⟩ q3 => h m tk L es ep t q1 q2 q3
  have ll : l < s.heap.objs.size := isq.lt
  have szI : (s.heap.push (freshS w)).objs.size = s.heap.objs.size + 1 := Heap.size_push ..
  have nfp : s.heap.objs.size ∉ [(s.heap.push (freshS w)).objs.size, l] := by
    rw [szI]
    simp only [List.mem_cons, List.not_mem_nil, or_false, not_or]
    exact ⟨Nat.ne_of_lt (Nat.lt_succ_self _), Nat.ne_of_gt ll⟩
  have hu0 : A.in1.in1.units ≤ A.units + 2 := by simp
  refine code_fill Wk s.heap.objs.size nfp ks isz few val s.heap hk (get_none (Nat.le_refl _)) (fun b hb => get_none ?_) (by omega) (items.size - 0) 0 _ rfl (Nat.zero_le _) st (fun b o e => Heap.get?_push_of_some _ (Heap.get?_push_of_some _ e)) ⟨[], #[], 0, _, ns_fresh (Heap.get?_push_of_some _ (Heap.get?_push_size _ rfl)), ⟨(fun p hp => nomatch hp), (fun p hp => by simp at hp), Nat.le_refl _⟩⟩ fun m tk L es ep t q1 q2 q3 => ?_
  · rw [List.mem_singleton.mp hb, szI]; exact Nat.le_succ _
  · rw [isz] at q2
    exact hR m tk ⟨L, es, ep, t, q1, q2⟩ q3
/-- set(xs), ints -/
theorem call_setI {b : Bool} {l : Addr} {items : Array Value} (ns : List Int) {Q : Value → Shared → Prop} (hh : A.handled = none) (isq : IsSq b s.heap l items) (hit : IntsAre items.toList ns) (hb : ns.length + 1 < scanBound) (h : ∀ (h' : Heap) (tk c : Nat), SetR w h' s.heap.objs.size (fun j => decide (j ∈ ns)) c → c ≤ ns.length → (∀ b o, s.heap.get? b = some o → h'.get? b = some o) → Q (.ref s.heap.objs.size) { s with heap := h', toks := tk }) : wpAny (model P w) A (call (.type "set") [.ref l]) Q E s := by
  have isz : items.size = ns.length := by
    have q := IntsAre.length hit
    rwa [Array.length_toList] at q
  have val : ∀ (i : Nat) (v : Value), items[i]? = some v → ∃ k t, ns[i]? = some k ∧ v = .int k t := fun i v hv => by
    have hi : i < ns.length := by rw [← isz]; exact (Array.getElem?_eq_some_iff.mp hv).1
    obtain ⟨t, e⟩ := IntsAre.int_at hit i v (by rw [Array.getElem?_toList]; exact hv)
    exact ⟨ns[i], t, List.getElem?_eq_getElem hi, by rw [e, List.getD_eq_getElem?_getD, List.getElem?_eq_getElem hi]; rfl⟩
  refine call_set_by (G := fun m => ∃ c, SetR w m s.heap.objs.size (fun j => decide (j ∈ ns)) c ∧ c ≤ ns.length) hh isq (fun St R it Wk st hR => ?_) fun m tk ⟨c, q1, q2⟩ q3 => h m tk c q1 q2 q3
  have ll : l < s.heap.objs.size := isq.lt
  have szI : (s.heap.push (freshS w)).objs.size = s.heap.objs.size + 1 := Heap.size_push ..
  have nfp : s.heap.objs.size ∉ [(s.heap.push (freshS w)).objs.size, l] := by
    rw [szI]
    simp only [List.mem_cons, List.not_mem_nil, or_false, not_or]
    exact ⟨Nat.ne_of_lt (Nat.lt_succ_self _), Nat.ne_of_gt ll⟩
  refine set_update_ints Wk.toS s.heap.objs.size nfp ns isz hb val (items.size - 0) 0 _ (by omega) (Nat.zero_le _) st ⟨0, Nat.le_refl 0, setR_new_at (Heap.get?_push_of_some _ (Heap.get?_push_size _ rfl))⟩ fun s' c hm hc r => ?_
  obtain ⟨m, g2, d2, tk2, os2⟩ := s'
  have eg : g2 = s.gens := (hm.gens)
  have ed : d2 = s.drawn := hm.drawn
  have eo : os2 = s.os := hm.os
  subst eg ed eo
  rw [isz] at hc
  refine hR m tk2 ⟨c, r, hc⟩ fun b o e => hm.heap b o ?_ (Heap.get?_push_of_some _ (Heap.get?_push_of_some _ e))
  have lb : b < s.heap.objs.size := Heap.lt_size e
  rw [szI]
  simp only [List.mem_cons, List.not_mem_nil, or_false, not_or]
  exact ⟨Nat.ne_of_lt lb, Nat.ne_of_lt (Nat.lt_succ_of_lt lb)⟩
end
end Ev

/-! sets as values of the hand layer: set(xs), sorted(set), len(set) -/
namespace Ev
open PySem PySem.Spec L2
open PyProof.Rows hiding St
structure NSet0 (w : World) (h : Heap) (a : Addr) (L : List (NestedKey × Addr)) : Prop where
  ex : ∃ (es : Array (Int × Value)) (ep : Nat) (t : SetTable), (∃ o, h.get? a = some o ∧ o.ExactSet ∧ o.data = .set es ep t) ∧ es.toList = rowsN w L ∧ TabOk t (hsN w L) ∧ (L.map (·.1)).Nodup ∧ (w.params.followText "set-order" = true ∨ t.led = true) ∧ L.length * 5 < t.mask * 3 ∧ L.length < 64
def SetNO (w : World) (a : Addr) (L : List (NestedKey × Addr)) : HO := .ext fun h => NSet0 w h a L
theorem NSet.bare {w : World} {h : Heap} {a : Addr} {L : List (NestedKey × Addr)} {es : Array (Int × Value)} {ep : Nat} {t : SetTable} (R : NSet w h a L es ep t) : NSet0 w h a L := ⟨es, ep, t, R.obj, R.row, R.tab, R.uni, R.ord, R.lax, R.few⟩
theorem NSet0.whole {w : World} {h : Heap} {a : Addr} {L : List (NestedKey × Addr)} (R : NSet0 w h a L) (hi : ∀ p ∈ L, IsN h p.1 p.2) : ∃ es ep t, NSet w h a L es ep t := by
  obtain ⟨es, ep, t, h1, h2, h3, h4, h5, h6, h7⟩ := R.ex
  exact ⟨es, ep, t, h1, h2, h3, h4, hi, h5, h6, h7⟩
theorem setNO_new {P : Program} {w : World} {H : Hp} {h : Heap} {a : Addr} {L : List (NestedKey × Addr)} (R : NSet0 w h a L) : ObjOk P w H h a (SetNO w a L) := by
  have ⟨_, _, _, ⟨o, ho, _⟩, _⟩ := R.ex
  refine ⟨R, ⟨o, ho⟩, fun h1 h2 p k => ?_⟩; have ⟨es', ep', t', ⟨o', ho', r'⟩, q'⟩ := NSet0.ex p; exact ⟨es', ep', t', ⟨o', k o' ho', r'⟩, q'⟩
theorem refs_vals : ∀ {ks : List (NestedKey × Addr)} {us : List Value}, Vals (ks.map fun p => V.ref p.2) us → us = ks.map fun p => Value.ref p.2
  | [], _, .nil => rfl
  | p :: ks, _, .cons r t => by
    rw [show _ = Value.ref p.2 from r, refs_vals t]; rfl
theorem vals_refs : ∀ (ks : List (NestedKey × Addr)), Vals (ks.map fun p => V.ref p.2) (ks.map fun p => Value.ref p.2)
  | [] => .nil
  | p :: ks => .cons rfl (vals_refs ks)
def KeyR (H : Hp) (p : NestedKey × Addr) : Prop := KeyV H p.1 (.ref p.2) ∧ p.1.depth ≤ 8
def rSetN (K : PySem.W.Frag) (w : World) : List V → Hp → VK → Prop := fun xs H Q => ∃ (b : Bool) (l : Addr) (ks : List (NestedKey × Addr)), xs = [.ref l] ∧ Sq K b H l (ks.map fun p => V.ref p.2) ∧ (∀ p ∈ ks, KeyR H p) ∧ ks.length < 64 ∧
  ∀ (d : Addr) (L : List (NestedKey × Addr)), H d = none → (∀ p ∈ L, p ∈ ks) → (∀ p ∈ ks, p.1 ∈ L.map (·.1)) → (L.map (·.1)).Nodup → Q (.ref d) (upd H d (SetNO w d L))
def rSetI (K : PySem.W.Frag) (w : World) : List V → Hp → VK → Prop := fun xs H Q => ∃ (b : Bool) (l : Addr) (ns : List Int), xs = [.ref l] ∧ Sq K b H l (ns.map V.int) ∧ ns.length < 64 ∧
  ∀ d c, H d = none → c ≤ ns.length → Q (.ref d) (upd H d (SetO w d (fun j => decide (j ∈ ns)) c))
section
variable {X : Cx}
theorem cr_setN (hc : X.calm = true) (hu : X.A.units + 16 < cLine) : CallR X (.type "set") (rSetN X.K X.w) := by
  intro pl s σ H xs us Q I r ⟨b, l, ks, ex, hq, hk, few, q⟩
  subst ex
  rw [Vals.ref1 r]
  obtain ⟨im, rv, p⟩ := sq_get I hq
  have hn : H s.heap.objs.size = none := (I.hok.fresh (Nat.le_refl _))
  refine call_setN (P := X.prog) (w := X.w) ks (I.ok.hd hc) p (by simpa using refs_vals rv) (fun p hp => ⟨nis I (hk p hp).1 rfl, (hk p hp).2⟩) few hu fun h' tk L es ep t R g k => ?_
  refine ⟨.ref s.heap.objs.size, _, I.laid (t' := tk) k (Nat.le_refl _) (setNO_new R.bare), rfl, q _ L hn (fun p hp => List.mem_of_mem_take (g.sub p hp)) (fun p hp => g.all p (by rw [List.take_length]; exact hp)) R.uni⟩
theorem cr_setI (hc : X.calm = true) : CallR X (.type "set") (rSetI X.K X.w) := by
  intro pl s σ H xs us Q I r ⟨b, l, ns, ex, hq, few, q⟩
  subst ex
  rw [Vals.ref1 r]
  obtain ⟨im, rv, p⟩ := sq_get I hq
  have hn : H s.heap.objs.size = none := (I.hok.fresh (Nat.le_refl _))
  refine call_setI (P := X.prog) (w := X.w) ns (I.ok.hd hc) p (by simpa using ints_of_vals rv) (by unfold scanBound; omega) fun h' tk c R hc' k => ?_
  exact ⟨.ref s.heap.objs.size, _, I.laid (t' := tk) k (Nat.le_refl _) (setO_new R), rfl, q _ c hn hc'⟩
/-- sorted(set) -/
def rSortN (w : World) : List V → Hp → VK → Prop := fun xs H Q => ∃ (d : Addr) (L : List (NestedKey × Addr)), xs = [.ref d] ∧ H d = some (SetNO w d L) ∧ (∀ p ∈ L, KeyR H p) ∧ W.AllAlike (L.map fun p => p.1.data) ∧ W.Sortable (L.map fun p => p.1.data) ∧ (∀ p ∈ L, p.1.data.depth ≤ 100) ∧
  ∀ (L1 : List (NestedKey × Addr)) (p : Addr), L1.Perm L → H p = none → Q (.ref p) (upd H p (.lst ((L1.mergeSort (W.dataLe false fun q => q.1.data)).map fun q => V.ref q.2)))
mutual
theorem keyV_data {K : PySem.W.Frag} {H : Hp} : ∀ {k : NestedKey} {v : V}, KeyV H k v → Dp K H v k.data
  | .none, v, h => by unfold KeyV at h; subst h; exact .non
  | .num i, v, h => by unfold KeyV at h; subst h; exact .int i
  | .text x, v, h => by unfold KeyV at h; subst h; exact .str x
  | .tup ks, v, h => by
    unfold KeyV at h
    obtain ⟨p, ys, rfl, hp, hk⟩ := h
    exact .tup (.of hp) (keyVs_data hk)
theorem keyVs_data {K : PySem.W.Frag} {H : Hp} : ∀ {ks : List NestedKey} {vs : List V}, KeyVs H ks vs → DpAll K H vs (NestedKey.datas ks)
  | [], vs, h => by unfold KeyVs at h; subst h; exact .nil
  | k :: ks, vs, h => by
    unfold KeyVs at h
    obtain ⟨y, r, rfl, h1, h2⟩ := h
    exact .cons (keyV_data h1) (keyVs_data h2)
end
theorem perm_back {α β : Type} {f : α → β} : ∀ {l m : List β}, l.Perm m → ∀ L : List α, m = L.map f → ∃ L1 : List α, l = L1.map f ∧ L1.Perm L := by
  intro l m pm
  induction pm with
  | nil => exact fun L e => ⟨[], rfl, by
      have : L = [] := by simpa using e.symm
      rw [this]⟩
  | cons x p ih =>
    intro L e
    cases L with
    | nil => simp at e
    | cons a L =>
      simp only [List.map_cons, List.cons.injEq] at e; obtain ⟨L1, e1, p1⟩ := ih L e.2
      exact ⟨a :: L1, by rw [e.1, e1]; rfl, p1.cons a⟩
  | swap x y l =>
    intro L e
    match L, e with
    | a :: b :: L, e =>
      simp only [List.map_cons, List.cons.injEq] at e; exact ⟨b :: a :: L, by rw [e.1, e.2.1, e.2.2]; rfl, .swap a b L⟩
  | trans p1 p2 ih1 ih2 =>
    intro L e
    obtain ⟨L2, e2, q2⟩ := ih2 L e
    obtain ⟨L1, e1, q1⟩ := ih1 L2 e2
    exact ⟨L1, e1, q1.trans q2⟩
theorem each_ref {β : Type} {f : β → Value} {R : Value → β → Prop} : ∀ {L : List β}, (∀ p ∈ L, R (f p) p) → W.EachIs R (L.map f) L
  | [], _ => .nil
  | p :: L, h => .cons (h p List.mem_cons_self) (each_ref fun q hq => h q (List.mem_cons_of_mem _ hq))
theorem each_eq {β : Type} {f : β → Value} : ∀ {us : List Value} {L : List β}, W.EachIs (fun v p => v = f p) us L → us = L.map f
  | _, _, .nil => rfl
  | _, _, .cons e t => by rw [e, each_eq t]; rfl
open PySem.W in
theorem sorted_setN {P : Program} {w : World} {A : Around} {E : Value → Shared → Prop} {s : Shared} {a : Addr} {L : List (NestedKey × Addr)} {es : Array (Int × Value)} {ep : Nat} {t : SetTable} {Q : Value → Shared → Prop} (R : NSet w s.heap a L es ep t) (hh : A.handled = none)
    (rd : ∀ p ∈ L, ∃ as, Reads s.heap (.ref p.2) p.1.data as) (al : AllAlike (L.map fun p => p.1.data)) (so : Sortable (L.map fun p => p.1.data)) (hu : ∀ p ∈ L, A.units + 2 + p.1.data.depth < cLine)
    (hQ : ∀ s' p (L1 : List (NestedKey × Addr)) c, L1.Perm L → (∀ b o, s.heap.get? b = some o → s'.heap.get? b = some o) → s'.gens = s.gens → s'.os = s.os → s.heap.objs.size ≤ p →
      s'.heap.get? p = some (seqObj "list" ((L1.mergeSort (dataLe false fun q => q.1.data)).map fun q => Value.ref q.2).toArray c) → Q (.ref p) s') : wpAny (model P w) A (call (.builtin "sorted") [.ref a]) Q E s := by
  obtain ⟨o, ho, hex, hd⟩ := R.obj
  have sz := rows_len R.row
  have few := R.few
  refine call_function_entry_kw kind_sorted plain_sorted entry_sorted (args_sorted1 _) ?_
  unfold Builtin.«sorted»; refine bnd (m := checkCount "sorted" 1 1 _) (pur ?_)
  refine bnd (collect_set (A := A.in1) hh ⟨o, ho, hex.1, hd⟩ R.fit (by unfold scanBound; omega) R.tab.ris R.ord fun s1 vs k1 hz g1 o1 pm => ?_)
  have em : es.toList.map (·.2) = L.map fun p => Value.ref p.2 := by
    rw [R.row]
    unfold rowsN
    rw [List.map_map]; rfl
  obtain ⟨L1, ev, pL⟩ := perm_back pm L em
  subst ev
  have ll : (L1.map fun p => Value.ref p.2).length ≤ sizeLine := by rw [List.length_map, pL.length_eq, sizeLine_eq]; omega
  refine bnd (wpAny_newList ?_ ll)
  have oL : (s1.heap.push (seqObj "list" (L1.map fun p => Value.ref p.2).toArray 0)).get? s1.heap.objs.size = some (seqObj "list" (L1.map fun p => Value.ref p.2).toArray 0) := Heap.get?_push_size _ rfl
  have old : ∀ b u, s.heap.get? b = some u → (s1.heap.push (seqObj "list" (L1.map fun p => Value.ref p.2).toArray 0)).get? b = some u := fun b u e => Heap.get?_push_of_some _ (k1 b u e)
  have nb : ∀ b u, s.heap.get? b = some u → b ≠ s1.heap.objs.size := fun b u e => Nat.ne_of_lt (Heap.lt_size (k1 b u e))
  have eD : EachIs (fun v (p : NestedKey × Addr) => ∃ as, Reads (sortingHeap (s1.heap.push (seqObj "list" (L1.map fun p => Value.ref p.2).toArray 0)) s1.heap.objs.size (L1.map fun p => Value.ref p.2)) v p.1.data as) (L1.map fun p => Value.ref p.2) L1 :=
    each_ref fun p hp => by
      obtain ⟨as, r⟩ := rd p (pL.mem_iff.mp hp)
      exact ⟨as, PyProof.Rows.Reads.keeps (fun b u e => sortingHeap_old (nb b u e) (old b u e)) r⟩
  have mem1 : ∀ d, d ∈ (L1.map fun p => p.1.data) → d ∈ (L.map fun p => p.1.data) := fun d hd' => (pL.map _).mem_iff.mp hd'
  have al1 : AllAlike (L1.map fun p => p.1.data) := fun d h1 d' h2 => al d (mem1 d h1) d' (mem1 d' h2)
  have so1 : Sortable (L1.map fun p => p.1.data) := by
    rcases so with z | z
    · exact .inl fun d h1 => z d (mem1 d h1)
    · exact .inr fun d h1 => z d (mem1 d h1)
  have hu1 : ∀ d, d ∈ (L1.map fun p => p.1.data) → A.in1.in1.units + d.depth < cLine := fun d hd' => by
    obtain ⟨p, hp, e⟩ := List.mem_map.mp (mem1 d hd')
    have h1 := hu p hp
    have e : p.1.data = d := e
    rw [e] at h1
    have h2 : A.in1.in1.units ≤ A.units + 2 := by simp
    omega
  generalize hhp : s1.heap.push (seqObj "list" (L1.map fun p => Value.ref p.2).toArray 0) = hp2 at oL old eD ⊢
  have SA : SortsAt P w A.in1.in1 { s1 with heap := sortingHeap hp2 s1.heap.objs.size (L1.map fun p => Value.ref p.2) } (dataKind (sortingHeap hp2 s1.heap.objs.size (L1.map fun p => Value.ref p.2)) (L1.map fun p => p.1.data)) (L1.map fun p => Value.ref p.2) :=
    SortsAt.data (each_map (R := fun v d => ∃ as, Reads (sortingHeap hp2 s1.heap.objs.size (L1.map fun p => Value.ref p.2)) v d as) (fun p : NestedKey × Addr => p.1.data) eD) al1 so1 hu1
  refine bnd (wpAny_holding (wpAny_call_entry_kw slot_list_sort ⟨_, oL, rfl⟩ entry_list_sort ?body (args_list_sort _)))
  case body =>
    show wpAny (model P w) A.in1.in1 (Builtin.«list.sort» ⟨[.ref s1.heap.objs.size], []⟩) _ _ _
    refine list_sort_vals (s := { s1 with heap := hp2 }) oL SA ll ?_
    have out := each_eq (sortVals_data (R := fun v (p : NestedKey × Addr) => v = .ref p.2) false (each_ref fun p _ => rfl) eD al1)
    rw [out]
    obtain ⟨c, hc⟩ := sortedHeap_at (vs := (L1.map fun p => Value.ref p.2)) (out := ((L1.mergeSort (dataLe false fun q => q.1.data)).map fun q => Value.ref q.2).toArray) oL
    refine ⟨_, rfl, pur ⟨_, rfl, hQ _ s1.heap.objs.size L1 c pL (fun b u e => ?_) g1 o1 hz hc⟩⟩
    show (sortedHeap _ _ _ _).get? b = some u
    rw [sortedHeap_old (nb b u e) (Heap.lt_size (old b u e))]
    exact old b u e
theorem cr_sortN (hc : X.calm = true) (hu : X.A.units + 110 < cLine) : CallR X (.builtin "sorted") (rSortN X.w) := by
  intro pl s σ H xs us Q I r ⟨d, L, ex, hd, hk, al, so, dep, q⟩
  subst ex
  have R0 : NSet0 X.w s.heap d L := (I.hok d _ hd).1
  obtain ⟨es, ep, t, R⟩ := R0.whole fun p hp => ⟨nis I (hk p hp).1 rfl, (hk p hp).2⟩
  rw [Vals.ref1 r]
  refine sorted_setN R (I.ok.hd hc) (fun p hp => Dp.reads I _ _ _ (keyV_data (K := X.K) (hk p hp).1) rfl) al so (fun p hp => by have := dep p hp; omega) fun s' p L1 c pL k g o hp hg => ?_
  have len : ((L1.mergeSort (W.dataLe false fun q => q.1.data)).map fun q => V.ref q.2).length ≤ sizeLine := by rw [List.length_map, List.length_mergeSort, pL.length_eq, sizeLine_eq]; have := R.few; omega
  have hn : H p = none := (I.hok.fresh hp)
  have J : Inv X pl σ (upd H p (.lst ((L1.mergeSort (W.dataLe false fun q => q.1.data)).map fun q => V.ref q.2))) { s with heap := s'.heap, gens := s'.gens, drawn := s'.drawn, toks := s'.toks } :=
    I.call (ch := []) (Un.laid k hp hn) (I.hok.laid k hp ⟨len, _, c, vals_refs _, hg⟩) (by rw [g]; exact I.bare) (fun _ z => nomatch z)
  have e : s' = { heap := s'.heap, gens := s'.gens, drawn := s'.drawn, toks := s'.toks, os := s.os } := by
    cases s'
    cases s
    cases o
    rfl
  rw [e]
  exact ⟨.ref p, _, J, rfl, q L1 p pL hn⟩
/-- len(set) -/
def rLenN (w : World) : List V → Hp → VK → Prop := fun xs H Q => ∃ (d : Addr) (L : List (NestedKey × Addr)), xs = [.ref d] ∧ H d = some (SetNO w d L) ∧ (∀ p ∈ L, KeyR H p) ∧ Q (.int L.length) H
theorem cr_lenN : CallR X (.builtin "len") (rLenN X.w) := by
  intro pl s σ H xs us Q I r ⟨d, L, ex, hd, hk, q⟩
  subst ex
  have R0 : NSet0 X.w s.heap d L := (I.hok d _ hd).1
  obtain ⟨es, ep, t, R⟩ := R0.whole fun p hp => ⟨nis I (hk p hp).1 rfl, (hk p hp).2⟩
  rw [Vals.ref1 r]
  obtain ⟨o, ho, hex, hdd⟩ := R.obj
  have sz := rows_len R.row
  have few := R.few
  exact call_len_set ho hex hdd R.fit (by rw [sz]; omega) ⟨.int _, H, I.tok _, ⟨_, by rw [sz]⟩, q⟩
def rLenI (w : World) : List V → Hp → VK → Prop := fun xs H Q => ∃ (d : Addr) (S : Int → Bool) (n : Nat), xs = [.ref d] ∧ H d = some (SetO w d S n) ∧ n < 64 ∧ ∀ ks : List Int, ks.Nodup → (∀ k, k ∈ ks ↔ S k = true) → Q (.int ks.length) H
theorem cr_lenI : CallR X (.builtin "len") (rLenI X.w) := by
  intro pl s σ H xs us Q I r ⟨d, S, n, ex, hd, few, q⟩
  subst ex
  obtain ⟨o, es, ep, t, ho, hex, hdd, _, uni, mem, _, fit, hn, _⟩ := setO_get I hd
  rw [Vals.ref1 r]
  have q := q _ uni fun k => (mem k).symm
  rw [List.length_map, Array.length_toList] at q
  exact call_len_set ho hex hdd fit (by rw [hn]; omega) ⟨.int _, H, I.tok _, ⟨_, rfl⟩, q⟩
end
end Ev

/-! the plain law of sorted(set(xs)) -/
namespace Ev
open PySem PySem.Spec L2
open PyProof.Rows hiding St
section
variable {α : Type}
theorem sorted_uni {R : α → α → Prop} : ∀ {l m : List α}, l.Perm m → l.Pairwise R → m.Pairwise R → (∀ a ∈ l, ∀ b ∈ l, R a b → R b a → a = b) → l = m
  | [], m, p, _, _, _ => p.symm.eq_nil.symm
  | a :: l, [], p, _, _, _ => absurd p.eq_nil (by simp)
  | a :: l, b :: m, p, h1, h2, anti => by
    have h1 := List.pairwise_cons.mp h1
    have h2 := List.pairwise_cons.mp h2
    have ab : a = b := by
      rcases List.mem_cons.mp (p.mem_iff.mp List.mem_cons_self) with e | ma
      · exact e
      rcases List.mem_cons.mp (p.mem_iff.mpr List.mem_cons_self) with e | mb
      · exact e.symm
      exact anti a List.mem_cons_self b (List.mem_cons_of_mem _ mb) (h1.1 b mb) (h2.1 a ma)
    subst ab
    rw [sorted_uni (List.Perm.cons_inv p) h1.2 h2.2 fun x hx y hy => anti x (List.mem_cons_of_mem _ hx) y (List.mem_cons_of_mem _ hy)]
theorem mgF_congr {le le' : α → α → Bool} : ∀ (n : Nat) (xs ys : List α), (∀ a ∈ xs, ∀ b ∈ ys, le a b = le' a b) → mgF le n xs ys = mgF le' n xs ys
  | 0, _, _, _ => rfl
  | _ + 1, [], ys, _ => by simp [mgF]
  | _ + 1, x :: xs, [], _ => by simp [mgF]
  | n + 1, x :: xs, y :: ys, h => by
    unfold mgF
    rw [h x List.mem_cons_self y List.mem_cons_self, mgF_congr n xs (y :: ys) fun a ha => h a (List.mem_cons_of_mem _ ha), mgF_congr n (x :: xs) ys fun a ha b hb => h a ha b (List.mem_cons_of_mem _ hb)]
theorem msF_congr {le le' : α → α → Bool} : ∀ (n : Nat) (l : List α), (∀ a ∈ l, ∀ b ∈ l, le a b = le' a b) → msF le n l = msF le' n l
  | 0, _, _ => rfl
  | _ + 1, [], _ => rfl
  | _ + 1, [_], _ => rfl
  | n + 1, a :: b :: l, h => by
    unfold msF
    rw [msF_congr n _ fun x hx y hy => h x (List.mem_of_mem_take hx) y (List.mem_of_mem_take hy), msF_congr n _ fun x hx y hy => h x (List.mem_of_mem_drop hx) y (List.mem_of_mem_drop hy)]
    exact mgF_congr _ _ _ fun x hx y hy => h x (List.mem_of_mem_take (msF_mem _ _ _ _ hx)) y (List.mem_of_mem_drop (msF_mem _ _ _ _ hy))
variable [DecidableEq α]
def rk (S : List α) (a : α) : Nat := match S with
  | [] => 0
  | x :: t => if x = a then 0 else rk t a + 1
/-- each before the later ones, and no later one before it -/
def strictB (le : α → α → Bool) : List α → Bool
  | [] => true
  | x :: t => le x x && (t.all (fun b => le x b && !le b x) && strictB le t)
theorem strict_uni {le : α → α → Bool} : ∀ {S : List α}, strictB le S = true → S.Nodup
  | [], _ => List.nodup_nil
  | x :: t, h => by
    unfold strictB at h
    simp only [Bool.and_eq_true, List.all_eq_true, Bool.not_eq_true'] at h
    obtain ⟨h1, h2, h3⟩ := h
    refine List.nodup_cons.mpr ⟨fun m => ?_, strict_uni h3⟩
    have q := (h2 x m).2
    rw [h1] at q
    cases q
theorem strict_rk {le : α → α → Bool} : ∀ {S : List α}, strictB le S = true → ∀ a ∈ S, ∀ b ∈ S, le a b = decide (rk S a ≤ rk S b)
  | [], _, _, m, _, _ => nomatch m
  | x :: t, h, a, ha, b, hb => by
    have un := strict_uni h
    unfold strictB at h
    simp only [Bool.and_eq_true, List.all_eq_true, Bool.not_eq_true'] at h
    obtain ⟨h1, h2, h3⟩ := h
    have nx : ∀ c ∈ t, x ≠ c := fun c hc e => (List.nodup_cons.mp un).1 (e ▸ hc)
    unfold rk
    rcases List.mem_cons.mp ha with ea | ma
    · subst ea
      rw [if_pos rfl]
      rcases List.mem_cons.mp hb with eb | mb
      · subst eb
        rw [if_pos rfl, h1]; rfl
      · rw [if_neg (nx b mb), (h2 b mb).1]
        exact (decide_eq_true (Nat.zero_le _)).symm
    · rw [if_neg (nx a ma)]
      rcases List.mem_cons.mp hb with eb | mb
      · subst eb
        rw [if_pos rfl, (h2 a ma).2]; exact (decide_eq_false (by omega)).symm
      · rw [if_neg (nx b mb), strict_rk h3 a ma b mb]
        simp
theorem rk_inj : ∀ {S : List α}, ∀ a ∈ S, ∀ b ∈ S, rk S a = rk S b → a = b
  | [], _, m, _, _, _ => nomatch m
  | x :: t, a, ha, b, hb, e => by
    unfold rk at e
    by_cases xa : x = a
    · by_cases xb : x = b
      · rw [← xa, xb]
      · rw [if_pos xa, if_neg xb] at e; omega
    · by_cases xb : x = b
      · rw [if_neg xa, if_pos xb] at e; omega
      · rw [if_neg xa, if_neg xb] at e
        have ma : a ∈ t := by rcases List.mem_cons.mp ha with z | z; exact absurd z.symm xa; exact z
        have mb : b ∈ t := by rcases List.mem_cons.mp hb with z | z; exact absurd z.symm xb; exact z
        exact rk_inj a ma b mb (by omega)
theorem rk_sorted : ∀ {S : List α}, S.Nodup → S.Pairwise fun a b => rk S a ≤ rk S b
  | [], _ => .nil
  | x :: t, un => by
    have un := List.nodup_cons.mp un
    have nx : ∀ c ∈ t, x ≠ c := fun c hc e => un.1 (e ▸ hc)
    refine List.pairwise_cons.mpr ⟨fun b _ => ?_, ?_⟩
    · unfold rk
      rw [if_pos rfl]
      exact Nat.zero_le _
    · refine List.Pairwise.imp_of_mem (fun {a b} ma mb h => ?_) (rk_sorted un.2)
      unfold rk
      rw [if_neg (nx a ma), if_neg (nx b mb)]
      omega
/-- the sorted order of what has the members of S -/
theorem sort_is {le : α → α → Bool} {S K : List α} (st : strictB le S = true) (un : K.Nodup) (mem : ∀ a, a ∈ K ↔ a ∈ S) : K.mergeSort le = S := by
  have pm : K.Perm S := (List.perm_ext_iff_of_nodup un (strict_uni st)).mpr mem
  have e1 : K.mergeSort le = K.mergeSort fun a b => decide (rk S a ≤ rk S b) := by
    rw [← msF_eq le (K.length + 1) K (Nat.lt_succ_self _), ← msF_eq (fun a b => decide (rk S a ≤ rk S b)) (K.length + 1) K (Nat.lt_succ_self _)]
    exact msF_congr _ _ fun a ha b hb => strict_rk st a ((mem a).mp ha) b ((mem b).mp hb)
  rw [e1]
  have so := List.pairwise_mergeSort (le := fun a b : α => decide (rk S a ≤ rk S b)) (fun a b c h1 h2 => by
    simp only [decide_eq_true_eq] at h1 h2 ⊢; omega) (fun a b => by
    simp only [Bool.or_eq_true, decide_eq_true_eq]; omega) K
  refine sorted_uni (R := fun a b => rk S a ≤ rk S b) ((List.mergeSort_perm _ _).trans pm) (so.imp fun h => of_decide_eq_true h) (rk_sorted (strict_uni st)) fun a ha b hb h1 h2 => ?_
  have ma := pm.mem_iff.mp ((List.mergeSort_perm _ _).mem_iff.mp ha)
  have mb := pm.mem_iff.mp ((List.mergeSort_perm _ _).mem_iff.mp hb)
  exact rk_inj a ma b mb (by omega)
def memB (S : List α) (a : α) : Bool := S.any fun x => decide (x = a)
theorem memB_iff {S : List α} {a : α} : memB S a = true ↔ a ∈ S := by
  unfold memB
  rw [List.any_eq_true]
  exact ⟨fun ⟨x, h1, h2⟩ => (of_decide_eq_true h2) ▸ h1, fun h => ⟨a, h, decide_eq_true rfl⟩⟩
def sameB (S K : List α) : Bool := S.all (memB K) && K.all (memB S)
theorem sameB_iff {S K : List α} (h : sameB S K = true) (a : α) : a ∈ K ↔ a ∈ S := by
  unfold sameB at h
  rw [Bool.and_eq_true, List.all_eq_true, List.all_eq_true] at h
  exact ⟨fun m => memB_iff.mp (h.2 a m), fun m => memB_iff.mp (h.1 a m)⟩
def uniB : List α → Bool
  | [] => true
  | x :: t => !memB t x && uniB t
theorem uniB_ok : ∀ {S : List α}, uniB S = true → S.Nodup
  | [], _ => List.nodup_nil
  | x :: t, h => by
    unfold uniB at h
    rw [Bool.and_eq_true, Bool.not_eq_true'] at h
    refine List.nodup_cons.mpr ⟨fun m => ?_, uniB_ok h.2⟩
    rw [memB_iff.mpr m] at h
    cases h.1
def dedup : List α → List α → List α
  | [], acc => acc.reverse
  | x :: t, acc => match memB acc x with
    | true => dedup t acc
    | false => dedup t (x :: acc)
end
end Ev

/-! sorted(set(xs)), len(set(xs)): the readings -/
namespace Ev
open PySem PySem.Spec L2
open PyProof.Rows hiding St
def rSetA (K : PySem.W.Frag) (w : World) : List V → Hp → VK → Prop := fun xs H Q => rSetN K w xs H Q ∨ rSetI K w xs H Q
def rSortA (w : World) : List V → Hp → VK → Prop := fun xs H Q => rSortN w xs H Q ∨ rSortedSet w xs H Q
def rLenS (w : World) : List V → Hp → VK → Prop := fun xs H Q => rLenN w xs H Q ∨ rLenI w xs H Q
def rSS (K : PySem.W.Frag) (w : World) : List V → Hp → VK → Prop := fun xs H Q => rSetA K w xs H fun y H2 => rSortA w [y] H2 Q
def rLS (K : PySem.W.Frag) (w : World) : List V → Hp → VK → Prop := fun xs H Q => rSetA K w xs H fun y H2 => rLenS w [y] H2 Q
theorem room_ss {k : Nat} {A : Around} (hr : Room k A) : A.units + 16 < cLine ∧ A.units + 110 < cLine := by
  have := hr.un
  omega
section
variable {X : Cx} {e : Expr} {p p2 pos pos2 : Pos} {t : TA}
theorem pe_ss (hc : X.calm = true) (hu : X.A.units + 16 < cLine ∧ X.A.units + 110 < cLine) (hg : L2.Gl X "sorted") (hm : X.mg "sorted" = none) (hg2 : L2.Gl X "set") (hm2 : X.mg "set" = none) (ha : PA X [e] t)
    (he : starEach [e] X.env = (false, eval e X.env) :: starEach [] X.env := by rfl) (hpl : (backTo pos2 (starEach [] X.env)).any (·.1) = false := by rfl) :
    PE X (.Call (.Name "sorted" p) [.Call (.Name "set" p2) [e] [] pos2] [] pos) (tCB (rSS X.K X.w) t) :=
  (pe_callB ((cr_sortN hc hu.2).or (cr_sortedSet hc)) hg hm boot_sorted (pa_cons (pe_callTy ((cr_setN hc hu.1).or (cr_setI hc)) hg2 hm2 PyProof.Rows.boot_set ha (by decide) (by decide) he hpl) pa_nil rfl)).imp fun _ _ _ h => h
theorem pe_ls (hc : X.calm = true) (hu : X.A.units + 16 < cLine ∧ X.A.units + 110 < cLine) (hg : L2.Gl X "len") (hm : X.mg "len" = none) (hg2 : L2.Gl X "set") (hm2 : X.mg "set" = none) (ha : PA X [e] t)
    (he : starEach [e] X.env = (false, eval e X.env) :: starEach [] X.env := by rfl) (hpl : (backTo pos2 (starEach [] X.env)).any (·.1) = false := by rfl) :
    PE X (.Call (.Name "len" p) [.Call (.Name "set" p2) [e] [] pos2] [] pos) (tCB (rLS X.K X.w) t) :=
  (pe_callB (cr_lenN.or cr_lenI) hg hm PySem.boot_len (pa_cons (pe_callTy ((cr_setN hc hu.1).or (cr_setI hc)) hg2 hm2 PyProof.Rows.boot_set ha (by decide) (by decide) he hpl) pa_nil rfl)).imp fun _ _ _ h => h
end
def setK (xs : List A) : Option (List NestedKey) := match toK.mapK (toK 8) xs with
  | some ks => (match (ks.all fun k => kind k == some true) && Nat.blt ks.length 64 with
    | true => some ks
    | false => none)
  | none => none
def setI (xs : List A) : Option (List Int) := match intsOf xs with
  | some ns => (match Nat.blt ns.length 64 with
    | true => some ns
    | false => none)
  | none => none
abbrev leN : NestedKey → NestedKey → Bool := W.dataLe false NestedKey.data
abbrev leI : Int → Int → Bool := fun a b => decide (a ≤ b)
def sortK (ks : List NestedKey) : Option (List NestedKey) := (fun S => match strictB leN S && (sameB S ks && (alikeB (S.map NestedKey.data) && (sortableB (S.map NestedKey.data) && S.all fun k => Nat.ble k.data.depth 100))) with
  | true => some S
  | false => none) (msF leN (ks.length + 1) (dedup ks []))
def sortI (ns : List Int) : Option (List Int) := (fun S => match strictB leI S && sameB S ns with
  | true => some S
  | false => none) (msF leI (ns.length + 1) (dedup ns []))
def ssetL (xs : List A) (h : Ah) : Rs A := match setI xs with
  | some ns => (match sortI ns with
    | some S => .ok (.ref h.n) (h.push (.lst (S.map A.int)))
    | none => .no)
  | none => (match setK xs with
    | some ks => (match sortK ks with
      | some S => .ok (.ref h.n) (h.push (.lst (S.map kA)))
      | none => .no)
    | none => .no)
def lsetL (xs : List A) (h : Ah) : Rs A := match setI xs with
  | some ns => (fun D => match uniB D && sameB D ns with
    | true => .ok (.int (D.length : Nat)) h
    | false => .no) (dedup ns [])
  | none => (match setK xs with
    | some ks => (fun D => match uniB D && sameB D ks with
      | true => .ok (.int (D.length : Nat)) h
      | false => .no) (dedup ks [])
    | none => .no)
section
variable {g : Gl} {ρ : Nat → Addr} {n : Nat} {H : Hp}
theorem keys_ok : ∀ {xs : List A} {ys : List V} {ks : List NestedKey}, toK.mapK (toK 8) xs = some ks → (∀ k ∈ ks, kind k = some true) → RVs g ρ n H xs ys → ∃ kp : List (NestedKey × Addr), ys = kp.map (fun p => V.ref p.2) ∧ kp.map (·.1) = ks ∧ ∀ p ∈ kp, KeyR H p
  | [], _, ks, e, _, r => by
    unfold toK.mapK at e; cases e
    rw [r.unnil]
    exact ⟨[], rfl, rfl, fun _ m => nomatch m⟩
  | x :: xs, _, ks, e, hk, r => by
    unfold toK.mapK at e
    split at e
    · rename_i k ks' h1 h2
      cases e
      obtain ⟨y, ys, rfl, r1, r2⟩ := r.uncons
      obtain ⟨kp, e1, e2, e3⟩ := keys_ok h2 (fun q m => hk q (List.mem_cons_of_mem _ m)) r2
      obtain ⟨a1, a2⟩ := toK_ok 8 x k h1
      have r1' : RV g ρ n H (kA k) y := by rw [a1]; exact r1
      have kv := keyV_of r1'
      have hy : ∃ a, y = .ref a := by
        have := hk k List.mem_cons_self
        cases k with
        | tup ks => unfold KeyV at kv; obtain ⟨p, _, e, _⟩ := kv; exact ⟨p, e⟩
        | _ => simp [kind] at this
      obtain ⟨a, rfl⟩ := hy
      refine ⟨(k, a) :: kp, by rw [e1]; rfl, by rw [List.map_cons, e2], fun p hp => ?_⟩
      rcases List.mem_cons.mp hp with z | z
      · rw [z]; exact ⟨kv, a2⟩
      · exact e3 p z
    · cases e
theorem rvs_keys : ∀ {M : List (NestedKey × Addr)}, (∀ q ∈ M, KeyR H q) → RVs g ρ n H ((M.map (·.1)).map kA) (M.map fun q => V.ref q.2)
  | [], _ => .nil
  | q :: M, h => .cons (keyV_to (h q List.mem_cons_self).1) (rvs_keys fun p hp => h p (List.mem_cons_of_mem _ hp))
theorem rvs_ints : ∀ (ns : List Int), RVs g ρ n H (ns.map A.int) (ns.map V.int)
  | [] => .nil
  | i :: ns => .cons rv_int (rvs_ints ns)
end
theorem strict_lt : ∀ {S : List Int}, strictB leI S = true → S.Pairwise (· < ·)
  | [], _ => .nil
  | x :: t, h => by
    unfold strictB at h
    simp only [Bool.and_eq_true, List.all_eq_true, Bool.not_eq_true', decide_eq_true_eq, decide_eq_false_iff_not] at h
    exact List.pairwise_cons.mpr ⟨fun b m => by have := (h.2.1 b m).2; omega, strict_lt h.2.2⟩
theorem keyR_up {H : Hp} {d : Addr} {o : HO} {q : NestedKey × Addr} (hd : H d = none) (h : KeyR H q) : KeyR (upd H d o) q :=
  ⟨h.1.mono fun a xs e => by rw [upd_ne (fun z => by rw [z, hd] at e; cases e)]; exact e, h.2⟩
theorem ss_ok {g : Gl} {K : PySem.W.Frag} {w : World} {b : Bool} {W : WX} {ρ ρc : Nat → Addr} {n : Nat} {H Hc : Hp} {h : Ah} {σ : St} {Q : VK} {vs : List A} {ys : List V} {l : Addr} (e : Ext ρ n H ρc h.n Hc) (r : RH g ρc Hc h) (hq : Sq K b Hc l ys) (rv : RVs g ρc h.n Hc vs ys)
    (pp : Post g W ρ n H σ (VQ g Q) (ssetL vs h)) : rSS K w [.ref l] Hc Q := by
  unfold ssetL at pp
  split at pp
  · rename_i ns hns
    unfold setI at hns
    split at hns
    · rename_i ns' hi
      split at hns
      · rename_i hl
        cases hns
        have ey := intsOf_ok hi rv
        subst ey
        split at pp
        · rename_i S hS
          unfold sortI at hS
          generalize msF leI (ns.length + 1) (dedup ns []) = S' at hS
          dsimp only at hS
          split at hS
          · rename_i hb
            cases hS
            rw [Bool.and_eq_true] at hb
            refine .inr ⟨b, l, ns, rfl, hq, Nat.blt_eq.mp hl, fun d c hd hc => .inr ⟨d, _, c, rfl, upd_same, Nat.lt_of_le_of_lt hc (Nat.blt_eq.mp hl), fun ms p pw mem _ hp => ?_⟩⟩
            have un : ms.Nodup := pw.imp fun h => by omega
            have pm : ms.Perm S := (List.perm_ext_iff_of_nodup un (strict_uni hb.1)).mpr fun a => by
              rw [mem a, decide_eq_true_eq]
              exact sameB_iff hb.2 a
            have em : ms = S := sorted_uni pm pw (strict_lt hb.1) fun a _ c _ h1 h2 => by omega
            rw [em]
            exact pp.lst (e.trans (ext_new hd)) (r.new hd) (rvs_ints S) p hp
          · cases hS
        · exact pp.elim
      · cases hns
    · cases hns
  · split at pp
    · rename_i ks hks
      unfold setK at hks
      split at hks
      · rename_i ks' hm
        split at hks
        · rename_i hb
          cases hks
          simp only [Bool.and_eq_true, List.all_eq_true, beq_iff_eq] at hb
          obtain ⟨kp, e1, e2, e3⟩ := keys_ok hm hb.1 rv
          subst e1
          split at pp
          · rename_i S hS
            unfold sortK at hS
            generalize msF leN (ks.length + 1) (dedup ks []) = S' at hS
            dsimp only at hS
            split at hS
            · rename_i hc
              cases hS
              simp only [Bool.and_eq_true, List.all_eq_true] at hc
              obtain ⟨st, sm, al, so, dp⟩ := hc
              have lk : kp.length < 64 := by
                have := Nat.blt_eq.mp hb.2
                rw [← e2, List.length_map] at this
                exact this
              refine .inl ⟨b, l, kp, rfl, hq, e3, lk, fun d L hd sub all uni => .inl ⟨d, L, rfl, upd_same, fun q hq => keyR_up hd (e3 q (sub q hq)), ?_, ?_, ?_, fun L1 p pL hp => ?_⟩⟩
              all_goals have mS : ∀ q ∈ L, q.1 ∈ S := fun q hq => (sameB_iff sm q.1).mp (by rw [← e2]; exact List.mem_map_of_mem (sub q hq))
              · intro d1 h1 d2 h2
                obtain ⟨q1, m1, z1⟩ := List.mem_map.mp h1
                obtain ⟨q2, m2, z2⟩ := List.mem_map.mp h2
                rw [← z1, ← z2]
                exact List.all_eq_true.mp (List.all_eq_true.mp al _ (List.mem_map_of_mem (mS q1 m1))) _ (List.mem_map_of_mem (mS q2 m2))
              · have lift : ∀ d, d ∈ (L.map fun p => p.1.data) → d ∈ S.map NestedKey.data := fun d hd' => by
                  obtain ⟨q, m, z⟩ := List.mem_map.mp hd'
                  rw [← z]
                  exact List.mem_map_of_mem (mS q m)
                rcases sortableB_ok so with z | z
                · exact .inl fun d hd' => z d (lift d hd')
                · exact .inr fun d hd' => z d (lift d hd')
              · exact fun q hq => Nat.le_of_ble_eq_true (dp _ (mS q hq))
              · have un1 : (L1.map (·.1)).Nodup := (pL.map (·.1)).nodup_iff.mpr uni
                have me1 : ∀ a, a ∈ L1.map (·.1) ↔ a ∈ S := fun a => by
                  rw [(pL.map (·.1)).mem_iff]
                  constructor
                  · intro m
                    obtain ⟨q, mq, z⟩ := List.mem_map.mp m
                    rw [← z]; exact mS q mq
                  · intro m
                    have mk := (sameB_iff sm a).mpr m
                    rw [← e2] at mk
                    obtain ⟨q, mq, z⟩ := List.mem_map.mp mk
                    rw [← z]; exact all q mq
                have eS : (L1.mergeSort (PySem.W.dataLe false fun q => q.1.data)).map (·.1) = S := by
                  rw [← sort_is st un1 me1, ← msF_eq leN (L1.length + 1) (L1.map (·.1)) (by rw [List.length_map]; exact Nat.lt_succ_self _), ← msF_eq _ (L1.length + 1) L1 (Nat.lt_succ_self _)]
                  exact (msF_map (fun q : NestedKey × Addr => q.1) (PySem.W.dataLe false fun q : NestedKey × Addr => q.1.data) leN (fun _ _ => rfl) _ _).symm
                have rr : RVs g ρc h.n (upd Hc d (SetNO w d L)) (S.map kA) ((L1.mergeSort (PySem.W.dataLe false fun q => q.1.data)).map fun q => V.ref q.2) := by
                  rw [← eS]
                  exact rvs_keys fun q hq => keyR_up hd (e3 q (sub q (pL.mem_iff.mp ((List.mergeSort_perm _ _).mem_iff.mp hq))))
                exact pp.lst (e.trans (ext_new hd)) (r.new hd) rr p hp
            · cases hS
          · exact pp.elim
        · cases hks
      · cases hks
    · exact pp.elim
theorem ls_ok {g : Gl} {K : PySem.W.Frag} {w : World} {b : Bool} {W : WX} {ρ ρc : Nat → Addr} {n : Nat} {H Hc : Hp} {h : Ah} {σ : St} {Q : VK} {vs : List A} {ys : List V} {l : Addr} (e : Ext ρ n H ρc h.n Hc) (r : RH g ρc Hc h) (hq : Sq K b Hc l ys) (rv : RVs g ρc h.n Hc vs ys)
    (pp : Post g W ρ n H σ (VQ g Q) (lsetL vs h)) : rLS K w [.ref l] Hc Q := by
  unfold lsetL at pp
  split at pp
  · rename_i ns hns
    unfold setI at hns
    split at hns
    · rename_i ns' hi
      split at hns
      · rename_i hl
        cases hns
        have ey := intsOf_ok hi rv
        subst ey
        generalize dedup ns [] = D at pp
        dsimp only at pp
        split at pp
        · rename_i hb
          rw [Bool.and_eq_true] at hb
          refine .inr ⟨b, l, ns, rfl, hq, Nat.blt_eq.mp hl, fun d c hd hc => .inr ⟨d, _, c, rfl, upd_same, Nat.lt_of_le_of_lt hc (Nat.blt_eq.mp hl), fun ms un mem => ?_⟩⟩
          have pm : ms.Perm D := (List.perm_ext_iff_of_nodup un (uniB_ok hb.1)).mpr fun a => by
            rw [mem a, decide_eq_true_eq]
            exact sameB_iff hb.2 a
          rw [pm.length_eq]
          exact pp.now (e.trans (ext_new hd)) (r.new hd) _ rv_int
        · exact pp.elim
      · cases hns
    · cases hns
  · split at pp
    · rename_i ks hks
      unfold setK at hks
      split at hks
      · rename_i ks' hm
        split at hks
        · rename_i hb
          cases hks
          simp only [Bool.and_eq_true, List.all_eq_true, beq_iff_eq] at hb
          obtain ⟨kp, e1, e2, e3⟩ := keys_ok hm hb.1 rv
          subst e1
          generalize dedup ks [] = D at pp
          dsimp only at pp
          split at pp
          · rename_i hc
            rw [Bool.and_eq_true] at hc
            have lk : kp.length < 64 := by
              have := Nat.blt_eq.mp hb.2
              rw [← e2, List.length_map] at this
              exact this
            refine .inl ⟨b, l, kp, rfl, hq, e3, lk, fun d L hd sub all uni => .inl ⟨d, L, rfl, upd_same, fun q hq => keyR_up hd (e3 q (sub q hq)), ?_⟩⟩
            have pm : (L.map (·.1)).Perm D := (List.perm_ext_iff_of_nodup uni (uniB_ok hc.1)).mpr fun a => by
              rw [← sameB_iff hc.2 a, ← e2]
              constructor
              · intro m
                obtain ⟨q, mq, z⟩ := List.mem_map.mp m
                rw [← z]; exact List.mem_map_of_mem (sub q mq)
              · intro m
                obtain ⟨q, mq, z⟩ := List.mem_map.mp m
                rw [← z]; exact all q mq
            have el : L.length = D.length := by rw [← pm.length_eq, List.length_map]
            rw [el]
            exact pp.now (e.trans (ext_new hd)) (r.new hd) _ rv_int
          · exact pp.elim
        · cases hks
      · cases hks
    · exact pp.elim
def ofSq (lop : List A → Ah → Rs A) : GL := fun vs h => match vs with
  | [.tup xs] => lop xs h
  | [.ref k] => (match h.get k with
    | some (.lst xs) => lop xs h
    | _ => .no)
  | _ => .no
def SqOk (g : Gl) (K : PySem.W.Frag) (r : List V → Hp → VK → Prop) (lop : List A → Ah → Rs A) : Prop := ∀ ⦃b : Bool⦄ ⦃W : WX⦄ ⦃ρ ρc : Nat → Addr⦄ ⦃n : Nat⦄ ⦃H Hc : Hp⦄ ⦃h : Ah⦄ ⦃σ : St⦄ ⦃Q : VK⦄ ⦃vs : List A⦄ ⦃ys : List V⦄ ⦃l : Addr⦄, Ext ρ n H ρc h.n Hc → RH g ρc Hc h → Sq K b Hc l ys → RVs g ρc h.n Hc vs ys →
  Post g W ρ n H σ (VQ g Q) (lop vs h) → r [.ref l] Hc Q
theorem ofSq_ok {g : Gl} {K : PySem.W.Frag} {r : List V → Hp → VK → Prop} {lop : List A → Ah → Rs A} (ok : SqOk g K r lop) : CallOk g r (ofSq lop) := by
  intro W ρ ρc n H Hc h σ Q vs xs e rh rx p
  unfold ofSq at p
  split at p
  · obtain ⟨y, rfl, ry⟩ := rx.one
    obtain ⟨q, ys, rfl, hq, rys⟩ := ry.tup'
    exact ok (b := false) e rh (.of hq) rys p
  · split at p
    · rename_i zs hk
      obtain ⟨y, rfl, ry⟩ := rx.one
      obtain ⟨_, rfl⟩ := ry.ref'
      obtain ⟨ys, hy, rys⟩ := rh.lst hk
      exact ok (b := true) e rh (.of hy) rys p
    · exact p.elim
  · exact p.elim
theorem sq_ss {g : Gl} {K : PySem.W.Frag} {w : World} : SqOk g K (rSS K w) ssetL := fun _ _ _ _ _ _ _ _ _ _ _ _ _ e r hq rv p => ss_ok e r hq rv p
theorem sq_ls {g : Gl} {K : PySem.W.Frag} {w : World} : SqOk g K (rLS K w) lsetL := fun _ _ _ _ _ _ _ _ _ _ _ _ _ e r hq rv p => ls_ok e r hq rv p
section
variable {X : Cx} {g : Gl} {W : WX} {e : Expr} {fs : FA} {f : FA} {p p2 pos pos2 : Pos}
theorem ee_ss (hc : X.calm = true) (hu : X.A.units + 16 < cLine ∧ X.A.units + 110 < cLine) (hg : L2.Gl X "sorted") (hm : X.mg "sorted" = none) (hg2 : L2.Gl X "set") (hm2 : X.mg "set" = none) (ha : PA X [e] (rdA g W fs))
    (he : starEach [e] X.env = (false, eval e X.env) :: starEach [] X.env := by rfl) (hpl : (backTo pos2 (starEach [] X.env)).any (·.1) = false := by rfl) :
    PE X (.Call (.Name "sorted" p) [.Call (.Name "set" p2) [e] [] pos2] [] pos) (rdE g W (fCall (ofSq ssetL) fs)) := (pe_ss hc hu hg hm hg2 hm2 ha he hpl).imp fun _ _ _ => rdCB (ofSq_ok sq_ss)
theorem ee_ssL (hc : X.calm = true) (hu : X.A.units + 16 < cLine ∧ X.A.units + 110 < cLine) (hg : L2.Gl X "sorted") (hm : X.mg "sorted" = none) (hg2 : L2.Gl X "set") (hm2 : X.mg "set" = none) (ha : PE X e (rdL g W f)) (hst : starEach [e] X.env = (false, eval e X.env) :: starEach [] X.env)
    (he : starEach [e] X.env = (false, eval e X.env) :: starEach [] X.env := by rfl) (hpl : (backTo pos2 (starEach [] X.env)).any (·.1) = false := by rfl) :
    PE X (.Call (.Name "sorted" p) [.Call (.Name "set" p2) [e] [] pos2] [] pos) (rdE g W (fCallL ssetL f)) := (pe_ss hc hu hg hm hg2 hm2 (pa_cons ha pa_nil hst) he hpl).imp fun _ _ _ => rdCBL fun _ _ _ _ _ _ _ _ _ _ _ _ e r hq rv p => ss_ok (b := true) e r hq rv p
theorem ee_ls (hc : X.calm = true) (hu : X.A.units + 16 < cLine ∧ X.A.units + 110 < cLine) (hg : L2.Gl X "len") (hm : X.mg "len" = none) (hg2 : L2.Gl X "set") (hm2 : X.mg "set" = none) (ha : PA X [e] (rdA g W fs))
    (he : starEach [e] X.env = (false, eval e X.env) :: starEach [] X.env := by rfl) (hpl : (backTo pos2 (starEach [] X.env)).any (·.1) = false := by rfl) :
    PE X (.Call (.Name "len" p) [.Call (.Name "set" p2) [e] [] pos2] [] pos) (rdE g W (fCall (ofSq lsetL) fs)) := (pe_ls hc hu hg hm hg2 hm2 ha he hpl).imp fun _ _ _ => rdCB (ofSq_ok sq_ls)
theorem ee_lsL (hc : X.calm = true) (hu : X.A.units + 16 < cLine ∧ X.A.units + 110 < cLine) (hg : L2.Gl X "len") (hm : X.mg "len" = none) (hg2 : L2.Gl X "set") (hm2 : X.mg "set" = none) (ha : PE X e (rdL g W f)) (hst : starEach [e] X.env = (false, eval e X.env) :: starEach [] X.env)
    (he : starEach [e] X.env = (false, eval e X.env) :: starEach [] X.env := by rfl) (hpl : (backTo pos2 (starEach [] X.env)).any (·.1) = false := by rfl) :
    PE X (.Call (.Name "len" p) [.Call (.Name "set" p2) [e] [] pos2] [] pos) (rdE g W (fCallL lsetL f)) := (pe_ls hc hu hg hm hg2 hm2 (pa_cons ha pa_nil hst) he hpl).imp fun _ _ _ => rdCBL fun _ _ _ _ _ _ _ _ _ _ _ _ e r hq rv p => ls_ok (b := true) e r hq rv p
end
end Ev

/-! factorials; dict(a dict) -/
namespace Ev
open PySem PySem.Spec L2
open PyProof.Rows hiding St
def rFac : List V → Hp → VK → Prop := fun vs H Q => ∃ a : Int, vs = [.int a] ∧ 0 ≤ a ∧ a ≤ 20000 ∧ Q (.int ((Builtin.Math.factorialNat a.toNat : Nat) : Int)) H
theorem cr_fac {X : Cx} : CallR X (.builtin "math.factorial") rFac := by
  intro pl s σ H vs us Q I r ⟨a, e, h0, h1, q⟩
  subst e
  cases r with
  | cons r t =>
    cases t
    obtain ⟨t, rfl⟩ := r
    exact PySem.W.mc_factorial h0 h1 fun _ => ⟨.int _, H, I.tok _, ⟨_, rfl⟩, q⟩
def cFac : GL := fun vs h => match vs with
  | [.int i] => (match decide (0 ≤ i) && decide (i ≤ 20000) with
    | true => .ok (.int ((Builtin.Math.factorialNat i.toNat : Nat) : Int)) h
    | false => .no)
  | _ => .no
theorem co_fac {g : Gl} : CallOk g rFac cFac := by
  intro W ρ ρc n H Hc h σ Q vs xs e r rx p
  unfold cFac at p
  split at p
  · rename_i i
    split at p
    · rename_i hi
      simp only [Bool.and_eq_true, decide_eq_true_eq] at hi
      obtain ⟨y, rfl, ry⟩ := rx.one
      cases ry.int'
      exact ⟨i, rfl, hi.1, hi.2, p.now e r _ rv_int⟩
    · exact p.elim
  · exact p.elim
/-! ### dict(d) -/
mutual
/-- no text inside: the hash is the same in every world -/
def plainK : NestedKey → Bool
  | .none => true
  | .num _ => true
  | .text _ => false
  | .tup ks => plainKs ks
def plainKs : List NestedKey → Bool
  | [] => true
  | k :: ks => plainK k && plainKs ks
end
mutual
def hashP : NestedKey → Int
  | .none => reduceHash 4238894112
  | .num i => hashInt i
  | .text _ => 0
  | .tup ks => reduceHash (Builtin.Tuple.tupleHashOf (hashPs ks))
def hashPs : List NestedKey → List Int
  | [] => []
  | k :: ks => hashP k :: hashPs ks
end
mutual
theorem hash_plain {w : World} : ∀ {k : NestedKey}, plainK k = true → k.hash w = hashP k
  | .none, _ => by unfold NestedKey.hash hashP; rfl
  | .num i, _ => by unfold NestedKey.hash hashP; rfl
  | .text _, h => by unfold plainK at h; cases h
  | .tup ks, h => by
    unfold plainK at h
    unfold NestedKey.hash hashP
    rw [hashes_plain h]
theorem hashes_plain {w : World} : ∀ {ks : List NestedKey}, plainKs ks = true → NestedKey.hashes w ks = hashPs ks
  | [], _ => by unfold NestedKey.hashes hashPs; rfl
  | k :: ks, h => by
    unfold plainKs at h
    rw [Bool.and_eq_true] at h
    unfold NestedKey.hashes hashPs
    rw [hash_plain h.1, hashes_plain h.2]
end
section
variable {X : Cx} {pl : List (Addr × Obj)} {σ : St} {H : Hp} {s : Shared} {d : Addr} {fz b : Bool} {vs : Rw} {A : Around} {E : Value → Shared → Prop}
theorem dv_copy {Q : Value → Shared → Prop} (hu : A.units + 12 < cLine) (I : Inv X pl σ H s) (D : Dv X.w H d fz b vs) (ap : b = true → (vs.map fun x => x.1.hash X.w).Nodup)
    (h : ∀ ws s', Sm vs ws → Inv X pl σ (upd H s.heap.objs.size (dO X.w s.heap.objs.size ws)) s' → Q (.ref s.heap.objs.size) s') : wpAny (model X.prog X.w) A (call (.type "dict") [.ref d]) Q E s := by
  cases b with
  | false =>
    have dd := D.leaf I
    refine kt_call_dict D.sys dd (by rw [List.length_map]; exact D.len) fun h' dd' sb => ?_
    obtain ⟨ws, sm, dr⟩ := raw_leaf dd' fun x m => (D.key x m).1
    refine h ws _ sm (dict_new (tk := s.toks) (Q := Q) I (fun c o e => (sb.2 c (Nat.ne_of_lt (Heap.lt_size e))).trans (Heap.get?_push_of_some _ e)) dr)
  | true =>
    have dd := D.nest I
    have hr : ∀ x ∈ vs, x.2.1 = .ref (ra x.2.1) := fun x m => by
      obtain ⟨h1, _, z, h2, h3⟩ := D.key x m
      exact ref_of h1 h3 h2
    have ne : s.heap.objs.size ≠ d := by
      obtain ⟨_, _, _, hg, _⟩ := dd
      exact Nat.ne_of_gt (Heap.lt_size hg)
    have newd : (s.heap.push { cls := .type "dict", data := .dict #[] }).DictOfH (nestedKind X.prog X.w) s.heap.objs.size [] := Heap.DictOfH.new s.heap
    have dd1 : (s.heap.push { cls := .type "dict", data := .dict #[] }).DictOfH (nestedKind X.prog X.w) d (vs.map pN) := by
      obtain ⟨o, es, ep, ho, hx, he, hr', hi, hn⟩ := dd
      exact ⟨o, es, ep, Heap.get?_push_of_some _ ho, hx, he, hr', fun x m => nestedKind_stays.stays (fun c ob _ _ e _ => Heap.get?_push_of_some _ e) (hi x m), hn⟩
    refine callType_codes (Q₁ := fun ob t => ob = .ref s.heap.objs.size ∧ t = { s with heap := s.heap.push { cls := .type "dict", data := .dict #[] } }) F.kt_called_dict (F.kt_typeCall_dict_1 _) F.entry_dict_init (kt_code_dict_new _ ⟨rfl, rfl⟩) ?_
    rintro obj s₁ ⟨rfl, rfl⟩
    refine ⟨newd.typeIs, F.args_dict_init_2 _ _, ?_⟩
    unfold Builtin.«dict.__init__»; refine bnd ?_
    unfold Builtin.Dict.selfAndRest; refine bnd (wpAny_notOrdered_dict newd.typeIs ?_)
    show wpAny _ _ (pure (s.heap.objs.size, [Value.ref d])) _ _ _; refine pur ?_
    show wpAny _ _ (Builtin.Dict.updateFrom "dict.__init__" s.heap.objs.size (.ref d) [] .none) _ _ _
    have room : (nestedKind X.prog X.w).room A.in1.in1.in1 := by
      show A.units + 1 + 1 + 1 + 8 < cLine
      omega
    refine updateFrom_dictH (s := { s with heap := s.heap.push { cls := .type "dict", data := .dict #[] } }) .none ?_ ne D.sys newd dd1 (.inr ⟨fun x m => ?_, ?_⟩) ?_ fun h' e1 _ sb => ?_
    · show A.units + 1 + 1 + 8 < cLine
      omega
    · obtain ⟨_, _, _, _, _, _, _, hi, _⟩ := dd1
      exact nestedKind_stays.tuple (hi x m)
    · rw [List.map_map]
      exact ap rfl
    · rw [List.length_nil, List.length_map, Nat.zero_add]; exact D.len
    · rw [storedAllH_nil_of_nodup (vs.map pN) dd1.nodup] at e1
      exact ⟨rfl, h vs _ (sm_refl _) (dict_new (tk := s.toks) (Q := Q) I (fun c o e => (sb.2 c (Nat.ne_of_lt (Heap.lt_size e))).trans (Heap.get?_push_of_some _ e)) (raw_nest e1 hr))⟩
end
def rDictD (w : World) : List V → Hp → VK → Prop := fun xs H Q => ∃ d fz b vs, xs = [.ref d] ∧ Dv w H d fz b vs ∧ (b = true → (vs.map fun x => x.1.hash w).Nodup) ∧ ∀ d' ws, H d' = none → d' ≠ sysModules → Sm vs ws → Q (.ref d') (upd H d' (dO w d' ws))
theorem cr_dictD {X : Cx} (hu : X.A.units + 12 < cLine) : CallR X (.type "dict") (rDictD X.w) := by
  intro pl s σ H xs us Q I r ⟨d, fz, b, vs, e, D, ap, q⟩
  subst e
  cases r with
  | cons r t =>
    cases t; cases r
    exact dv_copy hu I D ap fun ws s' sm I' => ⟨.ref _, _, I', rfl, q _ ws (I.hok.fresh (Nat.le_refl _)) (Ne.symm (Nat.ne_of_lt I.big)) sm⟩
/-- a variable: a list of pairs, or a dict -/
def cDict : GL := fun vs h => match vs with
  | [.ref k] => (match h.get k with
    | some (.lst xs) => dictL xs h
    | some (.dct _ kvs) => (match kindOk false kvs || (kvs.all (fun x => plainK x.1) && uniB (kvs.map fun x => hashP x.1)) with
      | true => .ok (.ref h.n) (h.push (.dct false kvs))
      | false => .no)
    | _ => .no)
  | _ => .no
theorem cr_dictA {X : Cx} (hc : X.calm = true) (hu : X.A.units + 12 < cLine) : CallR X (.type "dict") (fun xs H Q => rDictL X.K X.w xs H Q ∨ rDictD X.w xs H Q) := (cr_dictL hc hu).or (cr_dictD hu)
theorem co_dict {g : Gl} {K : PySem.W.Frag} {w : World} (hw : w = g.w) : CallOk g (fun xs H Q => rDictL K w xs H Q ∨ rDictD w xs H Q) cDict := by
  subst hw
  intro W ρ ρc n H Hc h σ Q vs xs e r rx p
  unfold cDict at p
  split at p
  · rename_i k
    obtain ⟨y, rfl, ry⟩ := rx.one
    obtain ⟨_, rfl⟩ := ry.ref'
    split at p
    · rename_i zs hk
      obtain ⟨ys, hy, rys⟩ := r.lst hk
      exact .inl (lo_dict rfl e r (.of hy) rys p)
    · rename_i fz kvs hk
      obtain ⟨us, d1, d2⟩ := r.dct hk
      split at p
      · rename_i hb
        obtain ⟨b, hbk⟩ := d1.uni
        have ap : b = true → (us.map fun x => x.1.hash g.w).Nodup := fun eb => by
          subst eb
          rw [Bool.or_eq_true] at hb
          rcases hb with hb | hb
          · have hf := kindOk_all d1 hb
            cases kvs with
            | nil =>
              have := rel_keys d1.rel
              have e0 : us = [] := by
                cases us with
                | nil => rfl
                | cons a t => cases d1.rel
              rw [e0]; exact List.nodup_nil
            | cons x t =>
              have h1 := (hbk x List.mem_cons_self).1
              have h2 := hf x List.mem_cons_self
              rw [h1] at h2; cases h2
          · rw [Bool.and_eq_true, List.all_eq_true] at hb
            have e1 : (us.map fun x => x.1.hash g.w) = kvs.map fun x => hashP x.1 := by
              have q := congrArg (List.map fun k : NestedKey => k.hash g.w) (rel_keys d1.rel)
              rw [List.map_map, List.map_map] at q
              refine q.symm.trans (List.map_congr_left fun x m => ?_)
              exact hash_plain (hb.1 x m)
            rw [e1]
            exact uniB_ok hb.2
        refine .inr ⟨_, fz, b, us, rfl, d1.dv d2 fun x m => (hbk x m).1, ap, fun d' ws hd hs sm => ?_⟩
        have ex : Ext ρc h.n Hc (put ρc h.n d') (h.n + 1) (upd Hc d' (dO g.w d' ws)) := ext_put hd
        have rd : RD g (put ρc h.n d') (h.n + 1) (upd Hc d' (dO g.w d' ws)) d' kvs ws := by
          have r0 : RD g ρc h.n Hc d' kvs us := ⟨beq_eq_false_iff_ne.mpr hs, d1.rel, d1.uni, d1.dup, d1.len⟩
          exact (r0.sm sm).imp fun _ _ q => q.mono ex
        exact p (put ρc h.n d') _ (e.trans ex) (r.pushO hd ⟨ws, rd, upd_same⟩) _ (by unfold RV; exact ⟨Nat.lt_succ_self _, by rw [put_same]⟩)
      · exact p.elim
    · exact p.elim
  · exact p.elim
end Ev

/-! several except clauses with names (the library has one with a name, or several without: HandS/Exc, HandS/TryMany) -/
namespace Ev
open PySem PySem.Spec L2
open PyProof.Rows hiding St
abbrev ClT := Value × Nat × (Addr → Value → Option Addr → TS)
def wNamed (K : PySem.W.Frag) (Wout : WX) (D : Ends) : List ClT → WX
  | [] => Wout
  | (c, i, ts) :: r => fun cls d σ H => ∃ b, PySem.W.exmOne K cls c = some b ∧
    (b = true → ∀ a, H a = none → ts a cls d { nx := fun σ' H' => D.nx (σ'.set i none) H', rt := D.rt, bk := fun σ' H' => D.bk (σ'.set i none) H', ct := fun σ' H' => D.ct (σ'.set i none) H' } (σ.set i (some (.ref a))) H) ∧
    (b = false → wNamed K Wout D r cls d σ H)
inductive NmOk (X : Cx) : List ExceptHandler → List ClT → Prop
  | nil : NmOk X [] []
  | cons {x n : Str} {c : Value} {i : Nat} {ts : Addr → Value → Option Addr → TS} {b₀ : Stmt} {suite : List Stmt} {np pos' : Pos} {hds : List ExceptHandler} {l : List ClT} (hc : Names X x c) (hi : X.N[i]? = some n) (hln : X.env.kindOf n = some .local)
      (hsu : ∀ (a : Addr) (oe : Obj) (cls : Value) (d : Option Addr) (pn : List (Addr × Obj)), Zc cls d oe → (∃ vs, oe.data = .fields vs) → PSs (X.suite a ((a, oe) :: pn)) (b₀ :: suite) (ts a cls d)) (r : NmOk X hds l) :
      NmOk X (.ExceptHandler (some (.Name x np)) (some n) (b₀ :: suite) pos' :: hds) ((c, i, ts) :: l)
section
variable {X : Cx} {body : List Stmt} {h₀ : ExceptHandler} {hds : List ExceptHandler} {l : List ClT} {pos : Pos} {tb : WX → TS} {Wout : WX}
theorem ps_named (hs : X.stack = X.env :: X.outer) (hf : X.env.frame = some X.env.locals) (hN : X.N.Nodup) (tk : Takes X Wout)
    (hb : ∀ (W : WX) (pn : List (Addr × Obj)) (xe : Value → Shared → Prop), (Takes (X.tr pn xe) W) → PassesOwn (model X.prog X.w) X.A X.env xe → PSs (X.tr pn xe) body (tb W))
    (hh : NmOk X (h₀ :: hds) l) : PS X (.Try body (h₀ :: hds) [] [] pos) (fun D σ H => tb (wNamed X.K Wout D l) D σ H) := by
  refine ⟨fun pl s σ H D I h => ?_⟩
  have ok := I.ok
  have frm : X.A.frames = some (X.env :: X.outer) := (ok.frames.trans (by rw [hs]))
  refine wpAny_Try_except (wpAny_mono ((hb (wNamed X.K Wout D l) (X.pn ++ pl) (fun e t => wpAny (model X.prog X.w) X.A (noteFrame e X.env) (fun _ t2 => wpAny (model X.prog X.w) X.A (setFlight e none) (fun _ t3 => wpAny (model X.prog X.w) X.A (handleBy e X.env (h₀ :: hds)) (SP X pl D) X.xe t3) X.xe t2) X.xe t) (fun u t xx => ?_) PassesOwn.looking).run [] s σ H D (I.toTry _) h) (fun f s1 hsp => ?_) (fun e s1 he => he))
  · obtain ⟨a, B, sI, pl', σ', H', cls, d, rfl, J', nb, up, sky, na, os, ag, w⟩ := xx
    have J : Inv X pl σ' H' sI := J'.ofTry ok
    show wpAny (model X.prog X.w) X.A (noteFrame (.ref a) X.env) _ _ _; refine Sky.land Zc.steady frm hf (by rw [← hs]; exact sky) fun h3 fl3 up3 => ?_
    have J3 : Inv X pl σ' H' { t with heap := h3 } := J.landed nb fl3.1 (up.trans up3) os ag
    obtain ⟨ob3, fl_3, at3, zc3, dt3⟩ := fl3.there
    have notFr : a ∉ frs (X.env :: X.outer) := fun hm => by
      obtain ⟨_, o', e', hnf⟩ := fl3.2.2.1.mem hm
      rw [at3] at e'; cases e'
      exact hnf _ dt3
    have nL : a ≠ X.env.locals := fun z => notFr (List.mem_filterMap.mpr ⟨X.env, .head _, by rw [hf, z]⟩)
    have notFs : a ∉ X.fs := fun hm => by
      obtain ⟨fr, mfr, q⟩ := List.mem_filterMap.mp hm
      exact notFr (List.mem_filterMap.mpr ⟨fr, .tail _ mfr, q⟩)
    have suite3 := J3.suite at3 dt3 na nL notFs
    have each : ∀ {hds' : List ExceptHandler} {l' : List ClT}, NmOk X hds' l' → wNamed X.K Wout D l' cls d σ' H' → wpAny (model X.prog X.w) X.A (handleBy (.ref a) X.env hds') (SP X pl D) X.xe { t with heap := h3 } := by
      intro hds' l' hk
      induction hk with
      | nil =>
        intro w
        refine wpAny_handleBy_nil ?_
        obtain ⟨_, _, _, oe, vs, T, oT, ts', he, hz, hd, h1, hr⟩ := id fl3
        unfold PySem.passOn; refine bnd (wpAny_field he hd h1 ?_)
        rw [if_neg (show ¬ ((Value.ref T == Value.none) = true) by simp)]
        have out : wpAny (model X.prog X.w) X.A (setFlight (.ref a) X.env.frame) (fun _ s4 => wpAny (model X.prog X.w) X.A (throw (.ref a) : Sem Flow) (SP X pl D) X.xe s4) X.xe { t with heap := h3 } := by
          rw [hf]; exact HandSPX.setFlight_upZ fl3 fun h4 hh4 up4 => wpAny_throw (tk _ _ ⟨a, B, sI, pl, σ', H', cls, d, rfl, J, nb, (up.trans up3).trans up4, .inr (.inr (by rw [hs]; exact hh4)), na, os, ag, w⟩)
        first
          | exact bnd (pur (bnd out))
          | exact bnd out
      | @cons x n c i ts b₀ suite np pos' more l2 hc hi hln hsu r ih =>
        intro w
        obtain ⟨b, hb1, yes, no⟩ := w
        refine wpAny_handleBy_cons (codeAny_handlers_test ?_) nofun
        have LM := PySem.W.exm_one (M := model X.prog X.w) J3.kIn (fun A Q E s k q => wpAny_typeOf_ref (k _ _ at3) (by rw [zc3.1]; exact q)) hb1
        have ask : ∀ {Q E : Value → Shared → Prop}, Q c { t with heap := h3 } → wpAny (model X.prog X.w) (X.A.mark (some (.ref a))) (eval (.Name x np) X.env) Q E { t with heap := h3 } := fun {Q E} q => by
          obtain ⟨hg, ndb, hm | ⟨hm, hv, nn⟩⟩ := hc
          · exact (ld_glob (X := X.suite a ((a, ob3) :: (X.pn ++ pl))) suite3 hg hm q ndb)
          · exact (ld_blt (X := X.suite a ((a, ob3) :: (X.pn ++ pl))) suite3 hg hm hv q nn ndb)
        refine ask (LM.here ?_)
        cases b with
        | true =>
          refine codeAny_handlers_suite_as (HandSPX.lands_againZ fl3 fun h4 fl4 up4 => ?_)
          have J4 : Inv X pl σ' H' { t with heap := h4 } := J.landed nb fl4.1 ((up.trans up3).trans up4) os ag
          obtain ⟨ob4, fl_4, at4, zc4, dt4⟩ := fl4.there
          refine store_ok (X := X.suite a ((a, ob4) :: (X.pn ++ pl))) (v := .ref a) (J4.suite at4 dt4 na nL notFs) hN hi (.inl hln) rfl (fun s5 S5 => ?_) (.inr hln)
          refine wpAny_mono ((hsu a ob4 cls d (X.pn ++ pl) zc4 ⟨_, dt4⟩).run [] s5 _ H' _ S5 (yes rfl a na)) (fun f s6 hsp => ?_) (fun _ _ z => z.elim)
          have gone : ∀ {σn : St} {Hn : Hp} {Q : Shared → Prop}, Inv (X.suite a ((a, ob4) :: (X.pn ++ pl))) [] σn Hn s6 → (∀ s7, Inv X pl (σn.set i none) Hn s7 → Q s7) →
            wpAny (model X.prog X.w) X.A (do bindName X.env n .none; unbindBehindTheSuite X.env n pos') (fun _ s7 => Q s7) X.xe s6 := fun {σn Hn Q} In hq => gone_ok (In.unsuite ok) hN hi hln hq
          cases f with
          | ret u =>
            obtain ⟨vn, σn, Hn, In, rn, qn⟩ := hsp
            exact gone In fun s7 J7 => ⟨vn, _, Hn, J7, rn, qn⟩
          | next =>
            obtain ⟨σn, Hn, In, qn⟩ := hsp
            exact gone In fun s7 J7 => ⟨_, Hn, J7, qn⟩
          | brk =>
            obtain ⟨σn, Hn, In, qn⟩ := hsp
            exact gone In fun s7 J7 => ⟨_, Hn, J7, qn⟩
          | cont =>
            obtain ⟨σn, Hn, In, qn⟩ := hsp
            exact gone In fun s7 J7 => ⟨_, Hn, J7, qn⟩
        | false =>
          show wpAny _ X.A (handleBy (.ref a) X.env more) _ _ _
          exact ih (no rfl)
    exact each hh w
  · cases f with
    | ret u =>
      obtain ⟨v, σ', H', Jb, r, q⟩ := hsp
      exact (⟨v, σ', H', Jb.ofTry ok, r, q⟩)
    | next =>
      obtain ⟨σ', H', J', q⟩ := hsp
      exact (wpAny_execs_nil ⟨σ', H', J'.ofTry ok, q⟩)
    | brk =>
      obtain ⟨σ', H', J', q⟩ := hsp
      exact (⟨σ', H', J'.ofTry ok, q⟩)
    | cont =>
      obtain ⟨σ', H', J', q⟩ := hsp
      exact (⟨σ', H', J'.ofTry ok, q⟩)
end
/-! ### the reading -/
def tryNs (nE : Nat) : List ((Nat → Bool) × Nat × FS) → Nat → Sa → Ah → RsS
  | [], j, s, h => .ex j s h
  | (sub, i, fsu) :: r, j, s, h => match sub j with
    | false => tryNs nE r j s h
    | true => (match cleanS s && cleanO h.os with
      | false => .no
      | true => (match fsu (s.set i (some (.exc j))) h with
        | .rt c h2 => (match nexc c && cleanO h2.os with
          | true => .rt c h2
          | false => .no)
        | .nx s2 h2 => (match cleanS (s2.set i none) && cleanO h2.os with
          | true => .nx (s2.set i none) h2
          | false => .no)
        | _ => .no))
def fTryNamed (nE : Nat) (l : List ((Nat → Bool) × Nat × FS)) (fb : FS) : FS := fun s h => match fb s h with
  | .ex j s' h' => (match Nat.blt j nE with
    | false => .no
    | true => tryNs nE l j s' h')
  | .nx s h => .nx s h
  | .rt a h => .rt a h
  | .bk s h => .bk s h
  | .ct s h => .ct s h
  | .no => .no
def tsN (g : Gl) (nE : Nat) (fsu : FS) : Addr → Value → Option Addr → TS := fun a cls d D σ H => ∃ j, cls = .ref (g.ca j) ∧ d = none ∧ j < nE ∧ rdS { g with ea := a, ej := j } noW fsu D σ H
inductive Nms (X : Cx) (g : Gl) (nE : Nat) : List ExceptHandler → List ((Nat → Bool) × Nat × FS) → List ClT → Prop
  | nil : Nms X g nE [] [] []
  | cons {x n : Str} {jc i : Nat} {b₀ : Stmt} {suite : List Stmt} {np pos' : Pos} {hds : List ExceptHandler} {sub : Nat → Bool} {fsu : FS} {l : List ((Nat → Bool) × Nat × FS)} {tl : List ClT} (hi : X.N[i]? = some n) (hln : X.env.kindOf n = some .local) (hc : Names X x (.ref (g.ca jc)))
      (hsub : ∀ j, j < nE → PySem.W.exmOne X.K (.ref (g.ca j)) (.ref (g.ca jc)) = some (sub j))
      (hsu : ∀ (a : Addr) (oe : Obj) (j : Nat) (pn : List (Addr × Obj)), j < nE → Zc (.ref (g.ca j)) none oe → (∃ vs, oe.data = .fields vs) → PSs (X.suite a ((a, oe) :: pn)) (b₀ :: suite) (rdS { g with ea := a, ej := j } noW fsu)) (r : Nms X g nE hds l tl) :
      Nms X g nE (.ExceptHandler (some (.Name x np)) (some n) (b₀ :: suite) pos' :: hds) ((sub, i, fsu) :: l) ((.ref (g.ca jc), i, tsN g nE fsu) :: tl)
section
variable {X : Cx} {g : Gl} {W : WX} {nE : Nat} {body : List Stmt} {pos : Pos} {fb : FS}
theorem Nms.ok {hds : List ExceptHandler} {l : List ((Nat → Bool) × Nat × FS)} {tl : List ClT} (h : Nms X g nE hds l tl) : NmOk X hds tl := by
  induction h with
  | nil => exact .nil
  | cons hi hln hc hsub hsu r ih => exact .cons hc hi hln (fun a oe cls d pn hz hd => ⟨fun pl s σ H D I ⟨j, e1, e2, hj, h⟩ => by
      subst e1 e2
      exact (hsu a oe j pn hj hz hd).run pl s σ H D I h⟩) ih
theorem nms_wish {hds : List ExceptHandler} {l : List ((Nat → Bool) × Nat × FS)} {tl : List ClT} {D : Ends} {ρ ρ' : Nat → Addr} {n : Nat} {H H' : Hp} {j : Nat} {s' : Sa} {h' : Ah} {σ' : St} (hh : Nms X g nE hds l tl) (hj : j < nE)
    (p : PostS g W ρ n H D (tryNs nE l j s' h')) (e' : Ext ρ n H ρ' h'.n H') (r' : RH g ρ' H' h') (rs' : RS g ρ' h'.n H' s' σ') : wNamed X.K W D tl (.ref (g.ca j)) none σ' H' := by
  induction hh with
  | nil => exact p ρ' H' σ' e' r' rs'
  | @cons x nm jc i b₀ suite np pos' hds sub fsu l tl hi hln hc hsub hsu r ih =>
    unfold tryNs at p
    refine ⟨sub j, hsub j hj, fun hb1 a na => ?_, fun hb0 => ?_⟩
    · rw [hb1] at p
      simp only at p
      split at p
      · exact p.elim
      · rename_i hcl
        rw [Bool.and_eq_true] at hcl
        have sw : Sw g { g with ea := a, ej := j } := ⟨rfl, rfl⟩
        have sb : Sw { g with ea := a, ej := j } g := ⟨rfl, rfl⟩
        refine ⟨j, rfl, rfl, hj, ρ', s'.set i (some (.exc j)), h', (rs'.sw sw hcl.1).set (by unfold RV; exact ⟨rfl, rfl⟩) i, r'.sw sw hcl.2, ?_⟩
        split at p
        · rename_i c h2 qs
          split at p
          · rename_i hc2
            rw [Bool.and_eq_true] at hc2
            rw [qs]
            exact fun ρ2 H2 v e2 r2 rv2 => p ρ2 H2 v (e'.trans e2) (r2.sw sb hc2.2) (rv2.sw sb hc2.1)
          · exact p.elim
        · rename_i s2 h2 qs
          split at p
          · rename_i hc2
            rw [Bool.and_eq_true] at hc2
            rw [qs]
            exact fun ρ2 H2 σ2 e2 r2 rs2 => p ρ2 H2 _ (e'.trans e2) (r2.sw sb hc2.2) ((rs2.forget i).sw sb hc2.1)
          · exact p.elim
        · exact p.elim
    · rw [hb0] at p
      exact ih p
theorem es_tryNamed {h₀ : ExceptHandler} {hds : List ExceptHandler} {l : List ((Nat → Bool) × Nat × FS)} {tl : List ClT} (hs : X.stack = X.env :: X.outer) (hf : X.env.frame = some X.env.locals) (hN : X.N.Nodup) (tk : Takes X W) (hh : Nms X g nE (h₀ :: hds) l tl)
    (hb : ∀ (W : WX) (pn : List (Addr × Obj)) (xe : Value → Shared → Prop), Takes (X.tr pn xe) W → PassesOwn (model X.prog X.w) X.A X.env xe → PSs (X.tr pn xe) body (rdS g W fb)) :
    PS X (.Try body (h₀ :: hds) [] [] pos) (rdS g W (fTryNamed nE l fb)) :=
  (ps_named (tb := fun W => rdS g W fb) hs hf hN tk hb hh.ok).imp fun D σ H ⟨ρ, s, h, rs, r, p⟩ => by
    refine ⟨ρ, s, h, rs, r, ?_⟩
    unfold fTryNamed at p
    cases q : fb s h with
    | nx s' h' => simp only [q] at p; exact p
    | rt s' h' => simp only [q] at p; exact p
    | bk s' h' => simp only [q] at p; exact p
    | ct s' h' => simp only [q] at p; exact p
    | no => simp only [q] at p; exact p.elim
    | ex j s' h' =>
      simp only [q] at p
      intro ρ' H' σ' e' r' rs'
      split at p
      · exact p.elim
      · rename_i hj
        exact nms_wish hh (Nat.blt_eq.mp hj) p e' r' rs'
end
end Ev

namespace Lw
open PySem PySem.Spec L2 Ev
open PyProof.Rows hiding St
abbrev pw : Program := PySem.Challenge.pw_strengthsuntold_k06_matchings_and_covers
def topS (i : Nat) : Stmt := pw.main.body.getD i (.Pass ⟨0, 0, 0, 0⟩)
abbrev s_adjoined : Stmt := topS 28
abbrev s_is_number : Stmt := topS 7
abbrev s_is_below : Stmt := topS 9
abbrev s_is_tuple_of : Stmt := topS 10
abbrev s_is_place : Stmt := topS 40
abbrev s_set_of : Stmt := topS 12
abbrev s_is_matching_in : Stmt := topS 39
abbrev s_is_count : Stmt := topS 8
abbrev s_is_pattern : Stmt := topS 22
abbrev s_tupled : Stmt := topS 6
abbrev s_sure_pattern : Stmt := topS 23
abbrev s_way_back : Stmt := topS 31
abbrev s_way_in : Stmt := topS 30
abbrev s_longer_way : Stmt := topS 47
abbrev s_is_narrow_in : Stmt := topS 51
abbrev s_pairs_grown : Stmt := topS 29
abbrev s_rank_of : Stmt := topS 33
abbrev s_subsets : Stmt := topS 14
abbrev s_narrow_rows : Stmt := topS 49
abbrev s__law_heard : Stmt := topS 58
abbrev s__law_lists : Stmt := topS 55
abbrev s_cover_in : Stmt := topS 44
abbrev s_cover : Stmt := topS 43
abbrev s_is_set_below : Stmt := topS 11
abbrev s_places_in : Stmt := topS 26
abbrev s_is_cover_in : Stmt := topS 46
abbrev s_is_cover : Stmt := topS 45
abbrev s_is_greatest : Stmt := topS 41
abbrev s_is_longer_way : Stmt := topS 48
abbrev s_is_matching : Stmt := topS 38
abbrev s_sure_set : Stmt := topS 13
abbrev s_is_narrow : Stmt := topS 50
abbrev s_is_rank_paper : Stmt := topS 36
abbrev s_is_of_in : Stmt := topS 24
abbrev s_is_table : Stmt := topS 16
abbrev s_is_table_of : Stmt := topS 25
abbrev s_rank_in : Stmt := topS 17
abbrev s_is_whole_table : Stmt := topS 53
abbrev s_matching : Stmt := topS 37
abbrev s_matchings_many : Stmt := topS 42
abbrev s_most_rank : Stmt := topS 34
abbrev s_greatest_pairs : Stmt := topS 32
abbrev s_rank_paper : Stmt := topS 35
abbrev s_whole_table : Stmt := topS 52
abbrev s__law_refused : Stmt := topS 57
abbrev s__law_same : Stmt := topS 56
abbrev s_law : Stmt := topS 59
def isE_LookupError (j : Nat) : Bool := match j with
  | 0 => true
  | 1 => false
  | _ => false
def isE_ValueError (j : Nat) : Bool := match j with
  | 0 => false
  | 1 => true
  | _ => false
def sub_NoPaper (j : Nat) : Bool := match j with
  | 0 => true
  | 1 => false
  | _ => false
def sub_Unfit (j : Nat) : Bool := match j with
  | 0 => false
  | 1 => true
  | _ => false
structure Wd (K : PySem.W.Frag) (mg : Str → Option Value) (g : Ev.Gl) : Prop where
  d_adjoined : Dn K mg g 16 "adjoined" s_adjoined ["pattern"]
  d_is_number : Dn K mg g 1 "is_number" s_is_number ["thing"]
  d_is_below : Dn K mg g 3 "is_below" s_is_below ["thing", "many"]
  d_is_tuple_of : Dn K mg g 4 "is_tuple_of" s_is_tuple_of ["thing", "many"]
  d_is_place : Dn K mg g 28 "is_place" s_is_place ["pattern", "thing"]
  d_set_of : Dn K mg g 6 "set_of" s_set_of ["things"]
  d_is_matching_in : Dn K mg g 27 "is_matching_in" s_is_matching_in ["pattern", "thing"]
  d_is_count : Dn K mg g 2 "is_count" s_is_count ["thing"]
  d_is_pattern : Dn K mg g 11 "is_pattern" s_is_pattern ["thing"]
  d_tupled : Dn K mg g 0 "tupled" s_tupled ["thing"]
  d_sure_pattern : Dn K mg g 12 "sure_pattern" s_sure_pattern ["thing"]
  d_way_back : Dn K mg g 19 "way_back" s_way_back ["came", "mates", "starts", "column"]
  d_way_in : Dn K mg g 18 "way_in" s_way_in ["lists", "mates", "starts"]
  d_longer_way : Dn K mg g 35 "longer_way" s_longer_way ["pattern", "told"]
  d_is_narrow_in : Dn K mg g 39 "is_narrow_in" s_is_narrow_in ["lists", "rows"]
  d_pairs_grown : Dn K mg g 17 "pairs_grown" s_pairs_grown ["lists", "pairs"]
  d_rank_of : Dn K mg g 21 "rank_of" s_rank_of ["pattern"]
  d_subsets : Dn K mg g 8 "subsets" s_subsets ["things"]
  d_narrow_rows : Dn K mg g 37 "narrow_rows" s_narrow_rows ["pattern"]
  d__law_heard : Dn K mg g 45 "_law_heard" s__law_heard ["door", "pattern", "pairs"]
  d__law_lists : Dn K mg g 42 "_law_lists" s__law_lists ["matter"]
  d_cover_in : Dn K mg g 32 "cover_in" s_cover_in ["pattern"]
  d_cover : Dn K mg g 31 "cover" s_cover ["pattern"]
  d_is_set_below : Dn K mg g 5 "is_set_below" s_is_set_below ["thing", "many"]
  d_places_in : Dn K mg g 15 "places_in" s_places_in ["pattern", "marks"]
  d_is_cover_in : Dn K mg g 34 "is_cover_in" s_is_cover_in ["pattern", "thing"]
  d_is_cover : Dn K mg g 33 "is_cover" s_is_cover ["pattern", "thing"]
  d_is_greatest : Dn K mg g 29 "is_greatest" s_is_greatest ["pattern", "thing"]
  d_is_longer_way : Dn K mg g 36 "is_longer_way" s_is_longer_way ["pattern", "told", "thing"]
  d_is_matching : Dn K mg g 26 "is_matching" s_is_matching ["pattern", "thing"]
  d_sure_set : Dn K mg g 7 "sure_set" s_sure_set ["thing", "many"]
  d_is_narrow : Dn K mg g 38 "is_narrow" s_is_narrow ["pattern", "rows"]
  d_is_rank_paper : Dn K mg g 24 "is_rank_paper" s_is_rank_paper ["pattern", "thing"]
  d_is_of_in : Dn K mg g 13 "is_of_in" s_is_of_in ["table", "pattern"]
  d_is_table : Dn K mg g 9 "is_table" s_is_table ["thing"]
  d_is_table_of : Dn K mg g 14 "is_table_of" s_is_table_of ["thing", "pattern"]
  d_rank_in : Dn K mg g 10 "rank_in" s_rank_in ["table"]
  d_is_whole_table : Dn K mg g 41 "is_whole_table" s_is_whole_table ["pattern", "thing"]
  d_matching : Dn K mg g 25 "matching" s_matching ["pattern"]
  d_matchings_many : Dn K mg g 30 "matchings_many" s_matchings_many ["pattern"]
  d_most_rank : Dn K mg g 22 "most_rank" s_most_rank ["pattern"]
  d_greatest_pairs : Dn K mg g 20 "greatest_pairs" s_greatest_pairs ["pattern"]
  d_rank_paper : Dn K mg g 23 "rank_paper" s_rank_paper ["pattern"]
  d_whole_table : Dn K mg g 40 "whole_table" s_whole_table ["pattern"]
  d__law_refused : Dn K mg g 44 "_law_refused" s__law_refused ["door"]
  d__law_same : Dn K mg g 43 "_law_same" s__law_same ["got", "due"]
  d_law : Dn K mg g 46 "law" s_law ["script"]
  n_LookupError : mg "LookupError" = none
  n_ValueError : mg "ValueError" = none
  n_all : mg "all" = none
  n_any : mg "any" = none
  n_bool : mg "bool" = none
  n_dict : mg "dict" = none
  n_enumerate : mg "enumerate" = none
  n_int : mg "int" = none
  n_isinstance : mg "isinstance" = none
  n_len : mg "len" = none
  n_list : mg "list" = none
  n_range : mg "range" = none
  n_set : mg "set" = none
  n_sorted : mg "sorted" = none
  n_str : mg "str" = none
  n_sum : mg "sum" = none
  n_tuple : mg "tuple" = none
  n_zip : mg "zip" = none
  c_MARKS : ∃ t, mg "MARKS" = some (.int 3 t)
  c_NOUGHT : ∃ t, mg "NOUGHT" = some (.int 0 t)
  c_PAIR : ∃ t, mg "PAIR" = some (.int 2 t)
  c_STRONG : ∃ t, mg "STRONG" = some (.int 1 t)
  g_factorial : mg "factorial" = some (.builtin "math.factorial")
  xk_LookupError : ∀ j, j < 2 → PySem.W.kitOne K (.ref (g.ca j)) (.type "LookupError") = some (isE_LookupError j)
  xk_ValueError : ∀ j, j < 2 → PySem.W.kitOne K (.ref (g.ca j)) (.type "ValueError") = some (isE_ValueError j)
  x_NoPaper : ∀ j, j < 2 → PySem.W.exmOne K (.ref (g.ca j)) (.ref (g.ca 0)) = some (sub_NoPaper j)
  x_Unfit : ∀ j, j < 2 → PySem.W.exmOne K (.ref (g.ca j)) (.ref (g.ca 1)) = some (sub_Unfit j)
  e_NoPaper : Ce K mg g 0 "NoPaper" "LookupError.__new__" [.type "LookupError", .type "Exception", .type "BaseException", .type "object"]
  e_Unfit : Ce K mg g 1 "Unfit" "ValueError.__new__" [.type "ValueError", .type "Exception", .type "BaseException", .type "object"]
  xc : ∀ j, j < 2 → ExcC K (g.ca j)
theorem sc_adjoined : FnScope ["pattern", "row", "column", "mark"] ["pattern"] (defScope s_adjoined) := ⟨rfl, rfl, rfl, by decide +kernel, rfl, by decide +kernel, by decide +kernel⟩
def b_adjoined : FS := fRet (eOfL (fLc (iSeqD (f2 gIxD (fVar 0) (fCon (.int 1)))) (.nm 1) (fYes) (eOfL (fLc (iEnumA (fCons (fVar 1) (fNil))) (.tp [.nm 2, .nm 3]) (t2 (cEq true) (fVar 3) (fCon (.int 0))) (fVar 2) [2, 3] 3000)) [1] 3000))
def f_adjoined : GL := runF 4 b_adjoined
theorem ok_adjoined {P : Program} {K : PySem.W.Frag} {mg : Str → Option Value} {base : Heap} {g : Ev.Gl} (W : Wd K mg g) : ∀ k, 1 ≤ k → FnOk P g.w K mg base (L2.CX P g.w) k (g.fa 16) (g.fd 16) ["pattern"] (spA g 1 f_adjoined)
  | 0, h => absurd h (by decide)
  | k + 1, h => ok_fn (N := ["pattern", "row", "column", "mark"]) (ps := ["pattern"]) (body := b_adjoined) W.d_adjoined.F sc_adjoined fun cdv A outer s H E hr => by
    unfold b_adjoined
    exact (ess_one (es_ret (ee_L (el_lc (own := [("row", 1)]) (t := .nm 1) 3000 rfl sc_adjoined.nd (ei_seqd rfl (ee_ixd rfl (room_d hr) (ee_var (i := 0) rfl (by first | exact .inl rfl | exact .inr (.inl rfl) | exact .inr (.inr rfl)) (by decide) (by decide)) ee_int (fun _ _ => rfl))) (blkOk_by (by kernel_rfl)) (by decide) (fun s H C cl fp => ⟨(eg_nm (i := 1) sc_adjoined.nd rfl (by first | exact .inl rfl | exact .inr rfl) (by first | exact .inl rfl | exact .inr rfl)), et_yes, (ee_L (el_lc (own := [("column", 2), ("mark", 3)]) (t := .tp [.nm 2, .nm 3]) 3000 rfl sc_adjoined.nd (ei_enum rfl W.n_enumerate (ea_cons (ee_var (i := 1) rfl (by first | exact .inl rfl | exact .inr (.inl rfl) | exact .inr (.inr rfl)) (by decide) (by decide)) ea_nil rfl)) (blkOk_by (by kernel_rfl)) (by decide) (fun s H C cl fp => ⟨(eg_tup rfl (eg_cons (eg_nm (i := 2) sc_adjoined.nd rfl (by first | exact .inl rfl | exact .inr rfl) (by first | exact .inl rfl | exact .inr rfl)) (eg_cons (eg_nm (i := 3) sc_adjoined.nd rfl (by first | exact .inl rfl | exact .inr rfl) (by first | exact .inl rfl | exact .inr rfl)) eg_nil))), (et_one (et_cmp (op_neD (room_eq hr)) co_ne (ee_var (i := 3) rfl (by first | exact .inl rfl | exact .inr (.inl rfl) | exact .inr (.inr rfl)) (by decide) (by decide)) (ee_gint rfl W.c_NOUGHT) rfl)), (ee_var (i := 2) rfl (by first | exact .inl rfl | exact .inr (.inl rfl) | exact .inr (.inr rfl)) (by decide) (by decide))⟩)))⟩)))))
theorem sc_is_number : FnScope ["thing"] ["thing"] (defScope s_is_number) := ⟨rfl, rfl, rfl, by decide +kernel, rfl, by decide +kernel, by decide +kernel⟩
def b_is_number : FS := fRet (fAnd (fCall cIsi (fCons (fVar 0) (fCons (fCon (.ty .int)) (fNil)))) (eOfT (tNotA (tOfE (fCall cIsi (fCons (fVar 0) (fCons (fCon (.ty .bool)) (fNil))))))))
def f_is_number : GL := runF 1 b_is_number
theorem ok_is_number {P : Program} {K : PySem.W.Frag} {mg : Str → Option Value} {base : Heap} {g : Ev.Gl} (W : Wd K mg g) : ∀ k, 1 ≤ k → FnOk P g.w K mg base (L2.CX P g.w) k (g.fa 1) (g.fd 1) ["thing"] (spA g 1 f_is_number)
  | 0, h => absurd h (by decide)
  | k + 1, h => ok_fn (N := ["thing"]) (ps := ["thing"]) (body := b_is_number) W.d_is_number.F sc_is_number fun cdv A outer s H E hr => by
    unfold b_is_number
    exact (ess_one (es_ret (ee_and (ee_callB cr_isi co_isi rfl W.n_isinstance boot_isinstance (ea_cons (ee_var (i := 0) rfl (by first | exact .inl rfl | exact .inr (.inl rfl) | exact .inr (.inr rfl)) (by decide) (by decide)) (ea_cons (ee_ty .int rfl W.n_int boot_int) ea_nil rfl) rfl)) (ee_one (ee_not (ee_callB cr_isi co_isi rfl W.n_isinstance boot_isinstance (ea_cons (ee_var (i := 0) rfl (by first | exact .inl rfl | exact .inr (.inl rfl) | exact .inr (.inr rfl)) (by decide) (by decide)) (ea_cons (ee_ty .bool rfl W.n_bool boot_bool) ea_nil rfl) rfl)))))))
theorem sc_is_below : FnScope ["thing", "many"] ["thing", "many"] (defScope s_is_below) := ⟨rfl, rfl, rfl, by decide +kernel, rfl, by decide +kernel, by decide +kernel⟩
def b_is_below : FS := fRet (fAnd (fCallU 1 (f_is_number) (fCons (fVar 0) (fNil))) (eOfT (tch (cInt fun i j => decide (i ≤ j)) (cInt fun i j => decide (i < j)) (fCon (.int 0)) (fVar 0) (fVar 1))))
def f_is_below : GL := runF 2 b_is_below
theorem ok_is_below {P : Program} {K : PySem.W.Frag} {mg : Str → Option Value} {base : Heap} {g : Ev.Gl} (W : Wd K mg g) : ∀ k, 2 ≤ k → FnOk P g.w K mg base (L2.CX P g.w) k (g.fa 3) (g.fd 3) ["thing", "many"] (spA g 2 f_is_below)
  | 0, h => absurd h (by decide)
  | k + 1, h => ok_fn (N := ["thing", "many"]) (ps := ["thing", "many"]) (body := b_is_below) W.d_is_below.F sc_is_below fun cdv A outer s H E hr => by
    unfold b_is_below
    exact (ess_one (es_ret (ee_and (ee_call W.d_is_number (ok_is_number W k (by omega)) hr rfl (at_of (takes_of rfl rfl rfl rfl)) (ea_cons (ee_var (i := 0) rfl (by first | exact .inl rfl | exact .inr (.inl rfl) | exact .inr (.inr rfl)) (by decide) (by decide)) ea_nil rfl)) (ee_one (ee_chain op_le op_lt co_int co_int ee_int (ee_var (i := 0) rfl (by first | exact .inl rfl | exact .inr (.inl rfl) | exact .inr (.inr rfl)) (by decide) (by decide)) (ee_var (i := 1) rfl (by first | exact .inl rfl | exact .inr (.inl rfl) | exact .inr (.inr rfl)) (by decide) (by decide)) rfl)))))
theorem sc_is_tuple_of : FnScope ["thing", "many"] ["thing", "many"] (defScope s_is_tuple_of) := ⟨rfl, rfl, rfl, by decide +kernel, rfl, by decide +kernel, by decide +kernel⟩
def b_is_tuple_of : FS := fRet (fAnd (fCall cIsi (fCons (fVar 0) (fCons (fCon (.ty .tuple)) (fNil)))) (eOfT (t2 (cEq false) (fCall cLenD (fCons (fVar 0) (fNil))) (fVar 1))))
def f_is_tuple_of : GL := runF 2 b_is_tuple_of
theorem ok_is_tuple_of {P : Program} {K : PySem.W.Frag} {mg : Str → Option Value} {base : Heap} {g : Ev.Gl} (W : Wd K mg g) : ∀ k, 1 ≤ k → FnOk P g.w K mg base (L2.CX P g.w) k (g.fa 4) (g.fd 4) ["thing", "many"] (spA g 2 f_is_tuple_of)
  | 0, h => absurd h (by decide)
  | k + 1, h => ok_fn (N := ["thing", "many"]) (ps := ["thing", "many"]) (body := b_is_tuple_of) W.d_is_tuple_of.F sc_is_tuple_of fun cdv A outer s H E hr => by
    unfold b_is_tuple_of
    exact (ess_one (es_ret (ee_and (ee_callB cr_isi co_isi rfl W.n_isinstance boot_isinstance (ea_cons (ee_var (i := 0) rfl (by first | exact .inl rfl | exact .inr (.inl rfl) | exact .inr (.inr rfl)) (by decide) (by decide)) (ea_cons (ee_ty .tuple rfl W.n_tuple boot_tuple) ea_nil rfl) rfl)) (ee_one (ee_cmp (op_eqD (room_eq hr)) co_eq (ee_callB cr_lend (co_lend rfl) rfl W.n_len PySem.boot_len (ea_cons (ee_var (i := 0) rfl (by first | exact .inl rfl | exact .inr (.inl rfl) | exact .inr (.inr rfl)) (by decide) (by decide)) ea_nil rfl)) (ee_var (i := 1) rfl (by first | exact .inl rfl | exact .inr (.inl rfl) | exact .inr (.inr rfl)) (by decide) (by decide)) rfl)))))
theorem sc_is_place : FnScope ["pattern", "thing"] ["pattern", "thing"] (defScope s_is_place) := ⟨rfl, rfl, rfl, by decide +kernel, rfl, by decide +kernel, by decide +kernel⟩
def b_is_place : FS := fSeq (fIfS (tNotA (tOfE (fCallU 2 (f_is_tuple_of) (fCons (fVar 1) (fCons (fCon (.int 2)) (fNil)))))) (fRet (fCon (.bl false))) (fNext)) (fSeq (fIfS (tOrA (tNotA (tOfE (fCallU 2 (f_is_below) (fCons (f2 gIxD (fVar 1) (fCon (.int 0))) (fCons (fCall cLenD (fCons (f2 gIxD (fVar 0) (fCon (.int 1))) (fNil))) (fNil)))))) (tNotA (tOfE (fCallU 2 (f_is_below) (fCons (f2 gIxD (fVar 1) (fCon (.int 1))) (fCons (f2 gIxD (fVar 0) (fCon (.int 0))) (fNil))))))) (fRet (fCon (.bl false))) (fNext)) (fRet (eOfT (t2 (cEq true) (f2 gIxD (f2 gIxD (f2 gIxD (fVar 0) (fCon (.int 1))) (f2 gIxD (fVar 1) (fCon (.int 0)))) (f2 gIxD (fVar 1) (fCon (.int 1)))) (fCon (.int 0))))))
def f_is_place : GL := runF 2 b_is_place
theorem ok_is_place {P : Program} {K : PySem.W.Frag} {mg : Str → Option Value} {base : Heap} {g : Ev.Gl} (W : Wd K mg g) : ∀ k, 3 ≤ k → FnOk P g.w K mg base (L2.CX P g.w) k (g.fa 28) (g.fd 28) ["pattern", "thing"] (spA g 2 f_is_place)
  | 0, h => absurd h (by decide)
  | k + 1, h => ok_fn (N := ["pattern", "thing"]) (ps := ["pattern", "thing"]) (body := b_is_place) W.d_is_place.F sc_is_place fun cdv A outer s H E hr => by
    unfold b_is_place
    exact (ess_cons (es_if (et_not (et_truth (ee_call W.d_is_tuple_of (ok_is_tuple_of W k (by omega)) hr rfl (at_of (takes_of rfl rfl rfl rfl)) (ea_cons (ee_var (i := 1) rfl (by first | exact .inl rfl | exact .inr (.inl rfl) | exact .inr (.inr rfl)) (by decide) (by decide)) (ea_cons (ee_gint rfl W.c_PAIR) ea_nil rfl) rfl)) (fun _ => rfl))) (ess_one (es_ret ee_bl)) ess_nil) (ess_cons (es_if (PW.pt (ew_or (et_not (et_truth (ee_call W.d_is_below (ok_is_below W k (by omega)) hr rfl (at_of (takes_of rfl rfl rfl rfl)) (ea_cons (ee_ixd rfl (room_d hr) (ee_var (i := 1) rfl (by first | exact .inl rfl | exact .inr (.inl rfl) | exact .inr (.inr rfl)) (by decide) (by decide)) ee_int (fun _ _ => rfl)) (ea_cons (ee_callB cr_lend (co_lend rfl) rfl W.n_len PySem.boot_len (ea_cons (ee_ixd rfl (room_d hr) (ee_var (i := 0) rfl (by first | exact .inl rfl | exact .inr (.inl rfl) | exact .inr (.inr rfl)) (by decide) (by decide)) ee_int (fun _ _ => rfl)) ea_nil rfl)) ea_nil rfl) rfl)) (fun _ => rfl))) (ew_or1 (et_not (et_truth (ee_call W.d_is_below (ok_is_below W k (by omega)) hr rfl (at_of (takes_of rfl rfl rfl rfl)) (ea_cons (ee_ixd rfl (room_d hr) (ee_var (i := 1) rfl (by first | exact .inl rfl | exact .inr (.inl rfl) | exact .inr (.inr rfl)) (by decide) (by decide)) ee_int (fun _ _ => rfl)) (ea_cons (ee_ixd rfl (room_d hr) (ee_var (i := 0) rfl (by first | exact .inl rfl | exact .inr (.inl rfl) | exact .inr (.inr rfl)) (by decide) (by decide)) ee_int (fun _ _ => rfl)) ea_nil rfl) rfl)) (fun _ => rfl)))))) (ess_one (es_ret ee_bl)) ess_nil) (ess_one (es_ret (ee_cmp (op_neD (room_eq hr)) co_ne (ee_ixd rfl (room_d hr) (ee_ixd rfl (room_d hr) (ee_ixd rfl (room_d hr) (ee_var (i := 0) rfl (by first | exact .inl rfl | exact .inr (.inl rfl) | exact .inr (.inr rfl)) (by decide) (by decide)) ee_int (fun _ _ => rfl)) (ee_ixd rfl (room_d hr) (ee_var (i := 1) rfl (by first | exact .inl rfl | exact .inr (.inl rfl) | exact .inr (.inr rfl)) (by decide) (by decide)) ee_int (fun _ _ => rfl)) (fun _ _ => rfl)) (ee_ixd rfl (room_d hr) (ee_var (i := 1) rfl (by first | exact .inl rfl | exact .inr (.inl rfl) | exact .inr (.inr rfl)) (by decide) (by decide)) ee_int (fun _ _ => rfl)) (fun _ _ => rfl)) (ee_gint rfl W.c_NOUGHT) rfl)))))
theorem sc_set_of : FnScope ["things"] ["things"] (defScope s_set_of) := ⟨rfl, rfl, rfl, by decide +kernel, rfl, by decide +kernel, by decide +kernel⟩
def b_set_of : FS := fRet (fCall (byRef lTup cTup) (fCons (fCall (ofSq ssetL) (fCons (fVar 0) (fNil))) (fNil)))
def f_set_of : GL := runF 1 b_set_of
theorem ok_set_of {P : Program} {K : PySem.W.Frag} {mg : Str → Option Value} {base : Heap} {g : Ev.Gl} (W : Wd K mg g) : ∀ k, 1 ≤ k → FnOk P g.w K mg base (L2.CX P g.w) k (g.fa 6) (g.fd 6) ["things"] (spA g 1 f_set_of)
  | 0, h => absurd h (by decide)
  | k + 1, h => ok_fn (N := ["things"]) (ps := ["things"]) (body := b_set_of) W.d_set_of.F sc_set_of fun cdv A outer s H E hr => by
    unfold b_set_of
    exact (ess_one (es_ret (ee_callTy cr_tup co_tup rfl W.n_tuple boot_tuple (ea_cons (ee_ss rfl (room_ss hr) rfl W.n_sorted rfl W.n_set (ea_cons (ee_var (i := 0) rfl (by first | exact .inl rfl | exact .inr (.inl rfl) | exact .inr (.inr rfl)) (by decide) (by decide)) ea_nil rfl)) ea_nil rfl))))
theorem sc_is_matching_in : FnScope ["pattern", "thing", "side", "own"] ["pattern", "thing"] (defScope s_is_matching_in) := ⟨rfl, rfl, rfl, by decide +kernel, rfl, by decide +kernel, by decide +kernel⟩
def b_is_matching_in : FS := fSeq (fIfS (tOrA (tNotA (tOfE (fCall cIsi (fCons (fVar 1) (fCons (fCon (.ty .tuple)) (fNil)))))) (tNotA (tOfE (fCallL lAll (fLcX (iSeqD (fVar 1)) (.nm 3) (fYes) (fCallU 2 (f_is_place) (fCons (fVar 0) (fCons (fVar 3) (fNil)))) [3] 3000))))) (fRet (fCon (.bl false))) (fNext)) (fSeq (fIfS (t2 (cEq true) (fCallU 1 (f_set_of) (fCons (fVar 1) (fNil))) (fVar 1)) (fRet (fCon (.bl false))) (fNext)) (fRet (fCallL lAll (fLc (iRng1A (fCons (fCon (.int 2)) (fNil))) (.nm 2) (fYes) (eOfT (t2 (cEq false) (fCallL lsetL (fLc (iSeqD (fVar 1)) (.nm 3) (fYes) (f2 gIxD (fVar 3) (fVar 2)) [3] 3000)) (fCall cLenD (fCons (fVar 1) (fNil))))) [2] 3000))))
def f_is_matching_in : GL := runF 4 b_is_matching_in
theorem ok_is_matching_in {P : Program} {K : PySem.W.Frag} {mg : Str → Option Value} {base : Heap} {g : Ev.Gl} (W : Wd K mg g) : ∀ k, 4 ≤ k → FnOk P g.w K mg base (L2.CX P g.w) k (g.fa 27) (g.fd 27) ["pattern", "thing"] (spA g 2 f_is_matching_in)
  | 0, h => absurd h (by decide)
  | k + 1, h => ok_fn (N := ["pattern", "thing", "side", "own"]) (ps := ["pattern", "thing"]) (body := b_is_matching_in) W.d_is_matching_in.F sc_is_matching_in fun cdv A outer s H E hr => by
    unfold b_is_matching_in
    exact (ess_cons (es_if (PW.pt (ew_or (et_not (et_truth (ee_callB cr_isi co_isi rfl W.n_isinstance boot_isinstance (ea_cons (ee_var (i := 1) rfl (by first | exact .inl rfl | exact .inr (.inl rfl) | exact .inr (.inr rfl)) (by decide) (by decide)) (ea_cons (ee_ty .tuple rfl W.n_tuple boot_tuple) ea_nil rfl) rfl)) (fun _ => rfl))) (ew_or1 (et_not (et_truth (ee_callBL (cr_all rfl) lo_all rfl W.n_all boot_all (el_lcX (own := [("own", 3)]) (t := .nm 3) 3000 rfl sc_is_matching_in.nd (pas_of (takes_of rfl rfl rfl rfl) rfl rfl) (ei_seqd rfl (ee_var (i := 1) rfl (by first | exact .inl rfl | exact .inr (.inl rfl) | exact .inr (.inr rfl)) (by decide) (by decide))) (blkOk_by (by kernel_rfl)) (by decide) (fun s H C cl fp xe E pb => ⟨(eg_nm (i := 3) sc_is_matching_in.nd rfl (by first | exact .inl rfl | exact .inr rfl) (by first | exact .inl rfl | exact .inr rfl)), et_yes, (ee_call W.d_is_place (ok_is_place W k (by omega)) hr rfl pb.call (ea_cons (ee_var (i := 0) rfl (by first | exact .inl rfl | exact .inr (.inl rfl) | exact .inr (.inr rfl)) (by decide) (by decide)) (ea_cons (ee_var (i := 3) rfl (by first | exact .inl rfl | exact .inr (.inl rfl) | exact .inr (.inr rfl)) (by decide) (by decide)) ea_nil rfl) rfl))⟩)) rfl) (fun _ => rfl)))))) (ess_one (es_ret ee_bl)) ess_nil) (ess_cons (es_if (et_cmp (op_neD (room_eq hr)) co_ne (ee_call W.d_set_of (ok_set_of W k (by omega)) hr rfl (at_of (takes_of rfl rfl rfl rfl)) (ea_cons (ee_var (i := 1) rfl (by first | exact .inl rfl | exact .inr (.inl rfl) | exact .inr (.inr rfl)) (by decide) (by decide)) ea_nil rfl)) (ee_var (i := 1) rfl (by first | exact .inl rfl | exact .inr (.inl rfl) | exact .inr (.inr rfl)) (by decide) (by decide)) rfl) (ess_one (es_ret ee_bl)) ess_nil) (ess_one (es_ret (ee_callBL (cr_all rfl) lo_all rfl W.n_all boot_all (el_lc (own := [("side", 2)]) (t := .nm 2) 3000 rfl sc_is_matching_in.nd (ei_rng1 rfl W.n_range (ea_cons (ee_gint rfl W.c_PAIR) ea_nil rfl)) (blkOk_by (by kernel_rfl)) (by decide) (fun s H C cl fp => ⟨(eg_nm (i := 2) sc_is_matching_in.nd rfl (by first | exact .inl rfl | exact .inr rfl) (by first | exact .inl rfl | exact .inr rfl)), et_yes, (ee_cmp (op_eqD (room_eq hr)) co_eq (ee_lsL rfl (room_ss hr) rfl W.n_len rfl W.n_set (el_lc (own := [("own", 3)]) (t := .nm 3) 3000 rfl sc_is_matching_in.nd (ei_seqd rfl (ee_var (i := 1) rfl (by first | exact .inl rfl | exact .inr (.inl rfl) | exact .inr (.inr rfl)) (by decide) (by decide))) (blkOk_by (by kernel_rfl)) (by decide) (fun s H C cl fp => ⟨(eg_nm (i := 3) sc_is_matching_in.nd rfl (by first | exact .inl rfl | exact .inr rfl) (by first | exact .inl rfl | exact .inr rfl)), et_yes, (ee_ixd rfl (room_d hr) (ee_var (i := 3) rfl (by first | exact .inl rfl | exact .inr (.inl rfl) | exact .inr (.inr rfl)) (by decide) (by decide)) (ee_var (i := 2) rfl (by first | exact .inl rfl | exact .inr (.inl rfl) | exact .inr (.inr rfl)) (by decide) (by decide)) (fun _ _ => rfl))⟩)) rfl) (ee_callB cr_lend (co_lend rfl) rfl W.n_len PySem.boot_len (ea_cons (ee_var (i := 1) rfl (by first | exact .inl rfl | exact .inr (.inl rfl) | exact .inr (.inr rfl)) (by decide) (by decide)) ea_nil rfl)) rfl)⟩)) rfl)))))
theorem sc_is_count : FnScope ["thing"] ["thing"] (defScope s_is_count) := ⟨rfl, rfl, rfl, by decide +kernel, rfl, by decide +kernel, by decide +kernel⟩
def b_is_count : FS := fRet (fAnd (fCallU 1 (f_is_number) (fCons (fVar 0) (fNil))) (eOfT (t2 (cInt fun i j => decide (j ≤ i)) (fVar 0) (fCon (.int 0)))))
def f_is_count : GL := runF 1 b_is_count
theorem ok_is_count {P : Program} {K : PySem.W.Frag} {mg : Str → Option Value} {base : Heap} {g : Ev.Gl} (W : Wd K mg g) : ∀ k, 2 ≤ k → FnOk P g.w K mg base (L2.CX P g.w) k (g.fa 2) (g.fd 2) ["thing"] (spA g 1 f_is_count)
  | 0, h => absurd h (by decide)
  | k + 1, h => ok_fn (N := ["thing"]) (ps := ["thing"]) (body := b_is_count) W.d_is_count.F sc_is_count fun cdv A outer s H E hr => by
    unfold b_is_count
    exact (ess_one (es_ret (ee_and (ee_call W.d_is_number (ok_is_number W k (by omega)) hr rfl (at_of (takes_of rfl rfl rfl rfl)) (ea_cons (ee_var (i := 0) rfl (by first | exact .inl rfl | exact .inr (.inl rfl) | exact .inr (.inr rfl)) (by decide) (by decide)) ea_nil rfl)) (ee_one (ee_cmp op_ge co_int (ee_var (i := 0) rfl (by first | exact .inl rfl | exact .inr (.inl rfl) | exact .inr (.inr rfl)) (by decide) (by decide)) ee_int rfl)))))
theorem sc_is_pattern : FnScope ["thing", "row", "mark"] ["thing"] (defScope s_is_pattern) := ⟨rfl, rfl, rfl, by decide +kernel, rfl, by decide +kernel, by decide +kernel⟩
def b_is_pattern : FS := fSeq (fIfS (tOrA (tNotA (tOfE (fCallU 2 (f_is_tuple_of) (fCons (fVar 0) (fCons (fCon (.int 2)) (fNil)))))) (tOrA (tNotA (tOfE (fCallU 1 (f_is_count) (fCons (f2 gIxD (fVar 0) (fCon (.int 0))) (fNil))))) (tNotA (tOfE (fCall cIsi (fCons (f2 gIxD (fVar 0) (fCon (.int 1))) (fCons (fCon (.ty .tuple)) (fNil)))))))) (fRet (fCon (.bl false))) (fNext)) (fRet (fCallL lAll (fLcX (iSeqD (f2 gIxD (fVar 0) (fCon (.int 1)))) (.nm 1) (fYes) (fAnd (fCallU 2 (f_is_tuple_of) (fCons (fVar 1) (fCons (f2 gIxD (fVar 0) (fCon (.int 0))) (fNil)))) (fCallL lAll (fLcX (iSeqD (fVar 1)) (.nm 2) (fYes) (fCallU 2 (f_is_below) (fCons (fVar 2) (fCons (fCon (.int 3)) (fNil)))) [2] 3000))) [1] 3000)))
def f_is_pattern : GL := runF 3 b_is_pattern
theorem ok_is_pattern {P : Program} {K : PySem.W.Frag} {mg : Str → Option Value} {base : Heap} {g : Ev.Gl} (W : Wd K mg g) : ∀ k, 3 ≤ k → FnOk P g.w K mg base (L2.CX P g.w) k (g.fa 11) (g.fd 11) ["thing"] (spA g 1 f_is_pattern)
  | 0, h => absurd h (by decide)
  | k + 1, h => ok_fn (N := ["thing", "row", "mark"]) (ps := ["thing"]) (body := b_is_pattern) W.d_is_pattern.F sc_is_pattern fun cdv A outer s H E hr => by
    unfold b_is_pattern
    exact (ess_cons (es_if (PW.pt (ew_or (et_not (et_truth (ee_call W.d_is_tuple_of (ok_is_tuple_of W k (by omega)) hr rfl (at_of (takes_of rfl rfl rfl rfl)) (ea_cons (ee_var (i := 0) rfl (by first | exact .inl rfl | exact .inr (.inl rfl) | exact .inr (.inr rfl)) (by decide) (by decide)) (ea_cons (ee_gint rfl W.c_PAIR) ea_nil rfl) rfl)) (fun _ => rfl))) (ew_or (et_not (et_truth (ee_call W.d_is_count (ok_is_count W k (by omega)) hr rfl (at_of (takes_of rfl rfl rfl rfl)) (ea_cons (ee_ixd rfl (room_d hr) (ee_var (i := 0) rfl (by first | exact .inl rfl | exact .inr (.inl rfl) | exact .inr (.inr rfl)) (by decide) (by decide)) ee_int (fun _ _ => rfl)) ea_nil rfl)) (fun _ => rfl))) (ew_or1 (et_not (et_truth (ee_callB cr_isi co_isi rfl W.n_isinstance boot_isinstance (ea_cons (ee_ixd rfl (room_d hr) (ee_var (i := 0) rfl (by first | exact .inl rfl | exact .inr (.inl rfl) | exact .inr (.inr rfl)) (by decide) (by decide)) ee_int (fun _ _ => rfl)) (ea_cons (ee_ty .tuple rfl W.n_tuple boot_tuple) ea_nil rfl) rfl)) (fun _ => rfl))))))) (ess_one (es_ret ee_bl)) ess_nil) (ess_one (es_ret (ee_callBL (cr_all rfl) lo_all rfl W.n_all boot_all (el_lcX (own := [("row", 1)]) (t := .nm 1) 3000 rfl sc_is_pattern.nd (pas_of (takes_of rfl rfl rfl rfl) rfl rfl) (ei_seqd rfl (ee_ixd rfl (room_d hr) (ee_var (i := 0) rfl (by first | exact .inl rfl | exact .inr (.inl rfl) | exact .inr (.inr rfl)) (by decide) (by decide)) ee_int (fun _ _ => rfl))) (blkOk_by (by kernel_rfl)) (by decide) (fun s H C cl fp xe E pb => ⟨(eg_nm (i := 1) sc_is_pattern.nd rfl (by first | exact .inl rfl | exact .inr rfl) (by first | exact .inl rfl | exact .inr rfl)), et_yes, (ee_and (ee_call W.d_is_tuple_of (ok_is_tuple_of W k (by omega)) hr rfl pb.call (ea_cons (ee_var (i := 1) rfl (by first | exact .inl rfl | exact .inr (.inl rfl) | exact .inr (.inr rfl)) (by decide) (by decide)) (ea_cons (ee_ixd rfl (room_d hr) (ee_var (i := 0) rfl (by first | exact .inl rfl | exact .inr (.inl rfl) | exact .inr (.inr rfl)) (by decide) (by decide)) ee_int (fun _ _ => rfl)) ea_nil rfl) rfl)) (ee_one (ee_callBL (cr_all rfl) lo_all rfl W.n_all boot_all (el_lcX (own := [("mark", 2)]) (t := .nm 2) 3000 rfl sc_is_pattern.nd pb (ei_seqd rfl (ee_var (i := 1) rfl (by first | exact .inl rfl | exact .inr (.inl rfl) | exact .inr (.inr rfl)) (by decide) (by decide))) (blkOk_by (by kernel_rfl)) (by decide) (fun s H C cl fp xe E pb => ⟨(eg_nm (i := 2) sc_is_pattern.nd rfl (by first | exact .inl rfl | exact .inr rfl) (by first | exact .inl rfl | exact .inr rfl)), et_yes, (ee_call W.d_is_below (ok_is_below W k (by omega)) hr rfl pb.call (ea_cons (ee_var (i := 2) rfl (by first | exact .inl rfl | exact .inr (.inl rfl) | exact .inr (.inr rfl)) (by decide) (by decide)) (ea_cons (ee_gint rfl W.c_MARKS) ea_nil rfl) rfl))⟩)) rfl)))⟩)) rfl))))
theorem sc_tupled : FnScope ["thing", "own"] ["thing"] (defScope s_tupled) := ⟨rfl, rfl, rfl, by decide +kernel, rfl, by decide +kernel, by decide +kernel⟩
def b_tupled (C : GL) : FS := fRet (fIf (tOfE (fCall cIsi (fCons (fVar 0) (fCons (fTup (fCons (fCon (.ty .list)) (fCons (fCon (.ty .tuple)) (fNil)))) (fNil))))) (fCallL lTup (fLcX (iSeqD (fVar 0)) (.nm 1) (fYes) (fCallU 1 C (fCons (fVar 1) (fNil))) [1] 3000)) (fVar 0))
def f_tupled : Nat → GL
  | 0 => fun _ _ => .no
  | m + 1 => runF 2 (b_tupled (f_tupled m))
theorem ok_tupled {P : Program} {K : PySem.W.Frag} {mg : Str → Option Value} {base : Heap} {g : Ev.Gl} (W : Wd K mg g) : ∀ m k, m + 0 ≤ k → FnOk P g.w K mg base (L2.CX P g.w) k (g.fa 0) (g.fd 0) ["thing"] (spA g 1 (f_tupled m))
  | 0, _, _ => ok_no
  | _ + 1, 0, h => absurd h (by omega)
  | m + 1, k + 1, h => by
    have ih := ok_tupled (P := P) (base := base) W m
    exact ok_fn (N := ["thing", "own"]) (ps := ["thing"]) (body := b_tupled (f_tupled m)) W.d_tupled.F sc_tupled fun cdv A outer s H E hr => by
      unfold b_tupled
      exact (ess_one (es_ret (ee_if (et_truth (ee_callB cr_isi co_isi rfl W.n_isinstance boot_isinstance (ea_cons (ee_var (i := 0) rfl (by first | exact .inl rfl | exact .inr (.inl rfl) | exact .inr (.inr rfl)) (by decide) (by decide)) (ea_cons (ee_tup (ea_cons (ee_ty .list rfl W.n_list boot_list) (ea_cons (ee_ty .tuple rfl W.n_tuple boot_tuple) ea_nil rfl) rfl)) ea_nil rfl) rfl)) (fun _ => rfl)) (ee_callTyL call_tuple_of lo_tup rfl W.n_tuple boot_tuple (el_lcX (own := [("own", 1)]) (t := .nm 1) 3000 rfl sc_tupled.nd (pas_of (takes_of rfl rfl rfl rfl) rfl rfl) (ei_seqd rfl (ee_var (i := 0) rfl (by first | exact .inl rfl | exact .inr (.inl rfl) | exact .inr (.inr rfl)) (by decide) (by decide))) (blkOk_by (by kernel_rfl)) (by decide) (fun s H C cl fp xe E pb => ⟨(eg_nm (i := 1) sc_tupled.nd rfl (by first | exact .inl rfl | exact .inr rfl) (by first | exact .inl rfl | exact .inr rfl)), et_yes, (ee_call W.d_tupled (ih k (by omega)) hr rfl pb.call (ea_cons (ee_var (i := 1) rfl (by first | exact .inl rfl | exact .inr (.inl rfl) | exact .inr (.inr rfl)) (by decide) (by decide)) ea_nil rfl))⟩)) rfl) (ee_var (i := 0) rfl (by first | exact .inl rfl | exact .inr (.inl rfl) | exact .inr (.inr rfl)) (by decide) (by decide)))))
theorem sc_sure_pattern : FnScope ["thing", "own"] ["thing"] (defScope s_sure_pattern) := ⟨rfl, rfl, rfl, by decide +kernel, rfl, by decide +kernel, by decide +kernel⟩
def b_sure_pattern : FS := fSeq (fSet 1 (fCallU 1 (f_tupled 12) (fCons (fVar 0) (fNil)))) (fSeq (fIfS (tNotA (tOfE (fCallU 1 (f_is_pattern) (fCons (fVar 1) (fNil))))) (fRaise 1) (fNext)) (fRet (fVar 1)))
def f_sure_pattern : GL := runF 2 b_sure_pattern
theorem ok_sure_pattern {P : Program} {K : PySem.W.Frag} {mg : Str → Option Value} {base : Heap} {g : Ev.Gl} (W : Wd K mg g) : ∀ k, 14 ≤ k → FnOk P g.w K mg base (L2.CX P g.w) k (g.fa 12) (g.fd 12) ["thing"] (spA g 1 f_sure_pattern)
  | 0, h => absurd h (by decide)
  | k + 1, h => ok_fn (N := ["thing", "own"]) (ps := ["thing"]) (body := b_sure_pattern) W.d_sure_pattern.F sc_sure_pattern fun cdv A outer s H E hr => by
    unfold b_sure_pattern
    exact (ess_cons (es_set (i := 1) sc_sure_pattern.nd rfl (by first | exact .inl rfl | exact .inr rfl) (ee_call W.d_tupled (ok_tupled W 12 k (by omega)) hr rfl (at_of (takes_of rfl rfl rfl rfl)) (ea_cons (ee_var (i := 0) rfl (by first | exact .inl rfl | exact .inr (.inl rfl) | exact .inr (.inr rfl)) (by decide) (by decide)) ea_nil rfl)) rfl (by first | exact .inl rfl | exact .inr rfl)) (ess_cons (es_if (et_not (et_truth (ee_call W.d_is_pattern (ok_is_pattern W k (by omega)) hr rfl (at_of (takes_of rfl rfl rfl rfl)) (ea_cons (ee_var (i := 1) rfl (by first | exact .inl rfl | exact .inr (.inl rfl) | exact .inr (.inr rfl)) (by decide) (by decide)) ea_nil rfl)) (fun _ => rfl))) (ess_one (es_raise PySem.F.excBase_ValueError W.e_Unfit rfl rfl (takes_of rfl rfl rfl rfl))) ess_nil) (ess_one (es_ret (ee_var (i := 1) rfl (by first | exact .inl rfl | exact .inr (.inl rfl) | exact .inr (.inr rfl)) (by decide) (by decide))))))
theorem sc_way_back : FnScope ["came", "mates", "starts", "column", "found", "here", "own", "far", "row"] ["came", "mates", "starts", "column"] (defScope s_way_back) := ⟨rfl, rfl, rfl, by decide +kernel, rfl, by decide +kernel, by decide +kernel⟩
def b_way_back : FS := fSeq (fPar 4 5 (fCons (fLst (fCons (fVar 3) (fNil))) (fCons (f2 gIxD (fVar 0) (fVar 3)) (fNil)))) (fSeq (fLockS 1 (fSet 6 (fCallL dictL (fLc (iDpA (fVar 1)) (.tp [.nm 7, .nm 8]) (fYes) (fTup (fCons (fVar 8) (fCons (fVar 7) (fNil)))) [7, 8] 3000)))) (fSeq (whileN (t2 (cInE true) (fVar 5) (fVar 2)) (fSeq (fDrop (fMet mExtendA (fVar 4) (fCons (fLst (fCons (fVar 5) (fCons (f2 gIxD (fVar 6) (fVar 5)) (fNil)))) (fNil)))) (fSet 5 (f2 gIxD (fVar 0) (f2 gIxD (fVar 6) (fVar 5))))) 3000) (fRet (fCall (byRef lTup cTup) (fCons (fStep (f2 gAdd (fVar 4) (fLst (fCons (fVar 5) (fNil)))) (oNone) (-1)) (fNil))))))
def f_way_back : GL := runF 9 b_way_back
theorem ok_way_back {P : Program} {K : PySem.W.Frag} {mg : Str → Option Value} {base : Heap} {g : Ev.Gl} (W : Wd K mg g) : ∀ k, 1 ≤ k → FnOk P g.w K mg base (L2.CX P g.w) k (g.fa 19) (g.fd 19) ["came", "mates", "starts", "column"] (spA g 4 f_way_back)
  | 0, h => absurd h (by decide)
  | k + 1, h => ok_fn (N := ["came", "mates", "starts", "column", "found", "here", "own", "far", "row"]) (ps := ["came", "mates", "starts", "column"]) (body := b_way_back) W.d_way_back.F sc_way_back fun cdv A outer s H E hr => by
    unfold b_way_back
    exact (ess_cons (es_par (i := 4) (j := 5) rfl sc_way_back.nd rfl rfl (by decide) rfl rfl (ea_cons (ee_lst (ea_cons (ee_var (i := 3) rfl (by first | exact .inl rfl | exact .inr (.inl rfl) | exact .inr (.inr rfl)) (by decide) (by decide)) ea_nil rfl)) (ea_cons (ee_ixd rfl (room_d hr) (ee_var (i := 0) rfl (by first | exact .inl rfl | exact .inr (.inl rfl) | exact .inr (.inr rfl)) (by decide) (by decide)) (ee_var (i := 3) rfl (by first | exact .inl rfl | exact .inr (.inl rfl) | exact .inr (.inr rfl)) (by decide) (by decide)) (fun _ _ => rfl)) ea_nil rfl) rfl) rfl) (ess_cons (es_lock (i := 1) (es_set (i := 6) sc_way_back.nd rfl (by first | exact .inl rfl | exact .inr rfl) (ee_callTyL (cr_dictL rfl (room_dd hr)) (lo_dict rfl) rfl W.n_dict boot_dict (el_lc (own := [("far", 7), ("row", 8)]) (t := .tp [.nm 7, .nm 8]) 3000 rfl sc_way_back.nd (ei_dpairs rfl (ee_var (i := 1) rfl (by first | exact .inl rfl | exact .inr (.inl rfl) | exact .inr (.inr rfl)) (by decide) (by decide))) (blkOk_by (by kernel_rfl)) (by decide) (fun s H C cl fp => ⟨(eg_tup rfl (eg_cons (eg_nm (i := 7) sc_way_back.nd rfl (by first | exact .inl rfl | exact .inr rfl) (by first | exact .inl rfl | exact .inr rfl)) (eg_cons (eg_nm (i := 8) sc_way_back.nd rfl (by first | exact .inl rfl | exact .inr rfl) (by first | exact .inl rfl | exact .inr rfl)) eg_nil))), et_yes, (ee_tup (ea_cons (ee_var (i := 8) rfl (by first | exact .inl rfl | exact .inr (.inl rfl) | exact .inr (.inr rfl)) (by decide) (by decide)) (ea_cons (ee_var (i := 7) rfl (by first | exact .inl rfl | exact .inr (.inl rfl) | exact .inr (.inr rfl)) (by decide) (by decide)) ea_nil rfl) rfl))⟩)) rfl) rfl (by first | exact .inl rfl | exact .inr rfl))) (ess_cons (es_while 3000 (passes_of rfl) (et_cmp (or_notinE (room_in hr)) (co_notinT rfl) (ee_var (i := 5) rfl (by first | exact .inl rfl | exact .inr (.inl rfl) | exact .inr (.inr rfl)) (by decide) (by decide)) (ee_var (i := 2) rfl (by first | exact .inl rfl | exact .inr (.inl rfl) | exact .inr (.inr rfl)) (by decide) (by decide)) rfl) (ess_cons (es_expr (ee_met PySem.F.slot_list_extend PySem.F.type_list_extend (MtR.or mt_extend mt_extendT) mo_extendA (ee_var (i := 4) rfl (by first | exact .inl rfl | exact .inr (.inl rfl) | exact .inr (.inr rfl)) (by decide) (by decide)) (ea_cons (ee_lst (ea_cons (ee_var (i := 5) rfl (by first | exact .inl rfl | exact .inr (.inl rfl) | exact .inr (.inr rfl)) (by decide) (by decide)) (ea_cons (ee_ixd rfl (room_d hr) (ee_var (i := 6) rfl (by first | exact .inl rfl | exact .inr (.inl rfl) | exact .inr (.inr rfl)) (by decide) (by decide)) (ee_var (i := 5) rfl (by first | exact .inl rfl | exact .inr (.inl rfl) | exact .inr (.inr rfl)) (by decide) (by decide)) (fun _ _ => rfl)) ea_nil rfl) rfl)) ea_nil rfl))) (ess_one (es_set (i := 5) sc_way_back.nd rfl (by first | exact .inl rfl | exact .inr rfl) (ee_ixd rfl (room_d hr) (ee_var (i := 0) rfl (by first | exact .inl rfl | exact .inr (.inl rfl) | exact .inr (.inr rfl)) (by decide) (by decide)) (ee_ixd rfl (room_d hr) (ee_var (i := 6) rfl (by first | exact .inl rfl | exact .inr (.inl rfl) | exact .inr (.inr rfl)) (by decide) (by decide)) (ee_var (i := 5) rfl (by first | exact .inl rfl | exact .inr (.inl rfl) | exact .inr (.inr rfl)) (by decide) (by decide)) (fun _ _ => rfl)) (fun _ _ => rfl)) rfl (by first | exact .inl rfl | exact .inr rfl))))) (ess_one (es_ret (ee_callTy cr_tup co_tup rfl W.n_tuple boot_tuple (ea_cons (ee_step (ee_op or_add bo_add (ee_var (i := 4) rfl (by first | exact .inl rfl | exact .inr (.inl rfl) | exact .inr (.inr rfl)) (by decide) (by decide)) (ee_lst (ea_cons (ee_var (i := 5) rfl (by first | exact .inl rfl | exact .inr (.inl rfl) | exact .inr (.inr rfl)) (by decide) (by decide)) ea_nil rfl))) eo_none po_neg) ea_nil rfl)))))))
theorem sc_way_in : FnScope ["lists", "mates", "starts", "came", "todo", "place", "row", "column", "own"] ["lists", "mates", "starts"] (defScope s_way_in) := ⟨rfl, rfl, rfl, by decide +kernel, rfl, by decide +kernel, by decide +kernel⟩
def b_way_in : FS := fSeq (fAsg (.tp [.nm 3, .nm 4, .nm 5]) (fTup (fCons (fDict0) (fCons (fCall (byRef lList cList) (fCons (fVar 2) (fNil))) (fCons (fCon (.int 0)) (fNil)))))) (fSeq (whileN (t2 (cInt fun i j => decide (i < j)) (fVar 5) (fCall cLenD (fCons (fVar 4) (fNil)))) (fSeq (fSet 6 (f2 gIxD (fVar 4) (fVar 5))) (fSeq (fFor (iSeqD (eOfL (fLc (iSeqD (f2 gIxD (fVar 0) (fVar 6))) (.nm 8) (t2 (cInE true) (fVar 8) (fVar 3)) (fVar 8) [8] 3000))) (.nm 7) (fSeq (fSetD (fVar 6) (fVar 3) (fVar 7)) (fSeq (fIfS (t2 (cInE true) (fVar 7) (fVar 1)) (fRet (fCallU 4 (f_way_back) (fCons (fVar 3) (fCons (fVar 1) (fCons (fVar 2) (fCons (fVar 7) (fNil))))))) (fNext)) (fDrop (fMet mAppend (fVar 4) (fCons (f2 gIxD (fVar 1) (fVar 7)) (fNil)))))) 3000) (fSet 5 (f2 gAdd (fVar 5) (fCon (.int 1)))))) 3000) (fRet (fTup (fNil))))
def f_way_in : GL := runF 9 b_way_in
theorem ok_way_in {P : Program} {K : PySem.W.Frag} {mg : Str → Option Value} {base : Heap} {g : Ev.Gl} (W : Wd K mg g) : ∀ k, 2 ≤ k → FnOk P g.w K mg base (L2.CX P g.w) k (g.fa 18) (g.fd 18) ["lists", "mates", "starts"] (spA g 3 f_way_in)
  | 0, h => absurd h (by decide)
  | k + 1, h => ok_fn (N := ["lists", "mates", "starts", "came", "todo", "place", "row", "column", "own"]) (ps := ["lists", "mates", "starts"]) (body := b_way_in) W.d_way_in.F sc_way_in fun cdv A outer s H E hr => by
    unfold b_way_in
    exact (ess_cons (es_asg (ee_tup (ea_cons (ee_dnew rfl) (ea_cons (ee_callTy cr_list co_list rfl W.n_list boot_list (ea_cons (ee_var (i := 2) rfl (by first | exact .inl rfl | exact .inr (.inl rfl) | exact .inr (.inr rfl)) (by decide) (by decide)) ea_nil rfl)) (ea_cons ee_int ea_nil rfl) rfl) rfl)) (eg_tup rfl (eg_cons (eg_nm (i := 3) sc_way_in.nd rfl (by first | exact .inl rfl | exact .inr rfl) (by first | exact .inl rfl | exact .inr rfl)) (eg_cons (eg_nm (i := 4) sc_way_in.nd rfl (by first | exact .inl rfl | exact .inr rfl) (by first | exact .inl rfl | exact .inr rfl)) (eg_cons (eg_nm (i := 5) sc_way_in.nd rfl (by first | exact .inl rfl | exact .inr rfl) (by first | exact .inl rfl | exact .inr rfl)) eg_nil))))) (ess_cons (es_while 3000 (passes_of rfl) (et_cmp op_lt co_int (ee_var (i := 5) rfl (by first | exact .inl rfl | exact .inr (.inl rfl) | exact .inr (.inr rfl)) (by decide) (by decide)) (ee_callB cr_lend (co_lend rfl) rfl W.n_len PySem.boot_len (ea_cons (ee_var (i := 4) rfl (by first | exact .inl rfl | exact .inr (.inl rfl) | exact .inr (.inr rfl)) (by decide) (by decide)) ea_nil rfl)) rfl) (ess_cons (es_set (i := 6) sc_way_in.nd rfl (by first | exact .inl rfl | exact .inr rfl) (ee_ixd rfl (room_d hr) (ee_var (i := 4) rfl (by first | exact .inl rfl | exact .inr (.inl rfl) | exact .inr (.inr rfl)) (by decide) (by decide)) (ee_var (i := 5) rfl (by first | exact .inl rfl | exact .inr (.inl rfl) | exact .inr (.inr rfl)) (by decide) (by decide)) (fun _ _ => rfl)) rfl (by first | exact .inl rfl | exact .inr rfl)) (ess_cons (es_for 3000 (passes_of rfl) rfl (ei_seqd rfl (ee_L (el_lc (own := [("own", 8)]) (t := .nm 8) 3000 rfl sc_way_in.nd (ei_seqd rfl (ee_ixd rfl (room_d hr) (ee_var (i := 0) rfl (by first | exact .inl rfl | exact .inr (.inl rfl) | exact .inr (.inr rfl)) (by decide) (by decide)) (ee_var (i := 6) rfl (by first | exact .inl rfl | exact .inr (.inl rfl) | exact .inr (.inr rfl)) (by decide) (by decide)) (fun _ _ => rfl))) (blkOk_by (by kernel_rfl)) (by decide) (fun s H C cl fp => ⟨(eg_nm (i := 8) sc_way_in.nd rfl (by first | exact .inl rfl | exact .inr rfl) (by first | exact .inl rfl | exact .inr rfl)), (et_one (et_cmp (or_notinE (room_in hr)) (co_notinT rfl) (ee_var (i := 8) rfl (by first | exact .inl rfl | exact .inr (.inl rfl) | exact .inr (.inr rfl)) (by decide) (by decide)) (ee_var (i := 3) rfl (by first | exact .inl rfl | exact .inr (.inl rfl) | exact .inr (.inr rfl)) (by decide) (by decide)) rfl)), (ee_var (i := 8) rfl (by first | exact .inl rfl | exact .inr (.inl rfl) | exact .inr (.inr rfl)) (by decide) (by decide))⟩)))) (eg_nm (i := 7) sc_way_in.nd rfl (by first | exact .inl rfl | exact .inr rfl) (by first | exact .inl rfl | exact .inr rfl)) (ess_cons (es_setd rfl (room_d hr) (ee_var (i := 6) rfl (by first | exact .inl rfl | exact .inr (.inl rfl) | exact .inr (.inr rfl)) (by decide) (by decide)) (ee_var (i := 3) rfl (by first | exact .inl rfl | exact .inr (.inl rfl) | exact .inr (.inr rfl)) (by decide) (by decide)) (ee_var (i := 7) rfl (by first | exact .inl rfl | exact .inr (.inl rfl) | exact .inr (.inr rfl)) (by decide) (by decide))) (ess_cons (es_if (et_cmp (or_notinE (room_in hr)) (co_notinT rfl) (ee_var (i := 7) rfl (by first | exact .inl rfl | exact .inr (.inl rfl) | exact .inr (.inr rfl)) (by decide) (by decide)) (ee_var (i := 1) rfl (by first | exact .inl rfl | exact .inr (.inl rfl) | exact .inr (.inr rfl)) (by decide) (by decide)) rfl) (ess_one (es_ret (ee_call W.d_way_back (ok_way_back W k (by omega)) hr rfl (at_of (takes_of rfl rfl rfl rfl)) (ea_cons (ee_var (i := 3) rfl (by first | exact .inl rfl | exact .inr (.inl rfl) | exact .inr (.inr rfl)) (by decide) (by decide)) (ea_cons (ee_var (i := 1) rfl (by first | exact .inl rfl | exact .inr (.inl rfl) | exact .inr (.inr rfl)) (by decide) (by decide)) (ea_cons (ee_var (i := 2) rfl (by first | exact .inl rfl | exact .inr (.inl rfl) | exact .inr (.inr rfl)) (by decide) (by decide)) (ea_cons (ee_var (i := 7) rfl (by first | exact .inl rfl | exact .inr (.inl rfl) | exact .inr (.inr rfl)) (by decide) (by decide)) ea_nil rfl) rfl) rfl) rfl)))) ess_nil) (ess_one (es_expr (ee_met PySem.F.slot_list_append PySem.F.type_list_append mt_append mo_append (ee_var (i := 4) rfl (by first | exact .inl rfl | exact .inr (.inl rfl) | exact .inr (.inr rfl)) (by decide) (by decide)) (ea_cons (ee_ixd rfl (room_d hr) (ee_var (i := 1) rfl (by first | exact .inl rfl | exact .inr (.inl rfl) | exact .inr (.inr rfl)) (by decide) (by decide)) (ee_var (i := 7) rfl (by first | exact .inl rfl | exact .inr (.inl rfl) | exact .inr (.inr rfl)) (by decide) (by decide)) (fun _ _ => rfl)) ea_nil rfl))))))) (ess_one (es_set (i := 5) sc_way_in.nd rfl (by first | exact .inl rfl | exact .inr rfl) (ee_op or_add bo_add (ee_var (i := 5) rfl (by first | exact .inl rfl | exact .inr (.inl rfl) | exact .inr (.inr rfl)) (by decide) (by decide)) ee_int) rfl (by first | exact .inl rfl | exact .inr rfl)))))) (ess_one (es_ret (ee_tup ea_nil)))))
theorem sc_longer_way : FnScope ["pattern", "told", "own", "pairs", "taken", "free", "way", "row", "_", "column"] ["pattern", "told"] (defScope s_longer_way) := ⟨rfl, rfl, rfl, by decide +kernel, rfl, by decide +kernel, by decide +kernel⟩
def b_longer_way : FS := fSeq (fPar 2 3 (fCons (fCallU 1 (f_sure_pattern) (fCons (fVar 0) (fNil))) (fCons (fCallU 1 (f_tupled 12) (fCons (fVar 1) (fNil))) (fNil)))) (fSeq (fIfS (tNotA (tOfE (fCallU 2 (f_is_matching_in) (fCons (fVar 2) (fCons (fVar 3) (fNil)))))) (fRaise 1) (fNext)) (fSeq (fSet 4 (eOfL (fLc (iSeqD (fVar 3)) (.tp [.nm 7, .nm 8]) (fYes) (fVar 7) [7, 8] 3000))) (fSeq (fSet 5 (eOfL (fLc (iRng1A (fCons (fCall cLenD (fCons (f2 gIxD (fVar 2) (fCon (.int 1))) (fNil))) (fNil))) (.nm 7) (t2 (cInE true) (fVar 7) (fVar 4)) (fVar 7) [7] 3000))) (fSeq (fSet 6 (fCallU 3 (f_way_in) (fCons (fCallU 1 (f_adjoined) (fCons (fVar 2) (fNil))) (fCons (fCallL dictL (fLc (iSeqD (fVar 3)) (.tp [.nm 7, .nm 9]) (fYes) (fTup (fCons (fVar 9) (fCons (fVar 7) (fNil)))) [7, 9] 3000)) (fCons (fVar 5) (fNil)))))) (fSeq (fIfS (t2 (cEq false) (fVar 6) (fTup (fNil))) (fRaise 0) (fNext)) (fRet (fVar 6)))))))
def f_longer_way : GL := runF 10 b_longer_way
theorem ok_longer_way {P : Program} {K : PySem.W.Frag} {mg : Str → Option Value} {base : Heap} {g : Ev.Gl} (W : Wd K mg g) : ∀ k, 15 ≤ k → FnOk P g.w K mg base (L2.CX P g.w) k (g.fa 35) (g.fd 35) ["pattern", "told"] (spA g 2 f_longer_way)
  | 0, h => absurd h (by decide)
  | k + 1, h => ok_fn (N := ["pattern", "told", "own", "pairs", "taken", "free", "way", "row", "_", "column"]) (ps := ["pattern", "told"]) (body := b_longer_way) W.d_longer_way.F sc_longer_way fun cdv A outer s H E hr => by
    unfold b_longer_way
    exact (ess_cons (es_par (i := 2) (j := 3) rfl sc_longer_way.nd rfl rfl (by decide) rfl rfl (ea_cons (ee_call W.d_sure_pattern (ok_sure_pattern W k (by omega)) hr rfl (at_of (takes_of rfl rfl rfl rfl)) (ea_cons (ee_var (i := 0) rfl (by first | exact .inl rfl | exact .inr (.inl rfl) | exact .inr (.inr rfl)) (by decide) (by decide)) ea_nil rfl)) (ea_cons (ee_call W.d_tupled (ok_tupled W 12 k (by omega)) hr rfl (at_of (takes_of rfl rfl rfl rfl)) (ea_cons (ee_var (i := 1) rfl (by first | exact .inl rfl | exact .inr (.inl rfl) | exact .inr (.inr rfl)) (by decide) (by decide)) ea_nil rfl)) ea_nil rfl) rfl) rfl) (ess_cons (es_if (et_not (et_truth (ee_call W.d_is_matching_in (ok_is_matching_in W k (by omega)) hr rfl (at_of (takes_of rfl rfl rfl rfl)) (ea_cons (ee_var (i := 2) rfl (by first | exact .inl rfl | exact .inr (.inl rfl) | exact .inr (.inr rfl)) (by decide) (by decide)) (ea_cons (ee_var (i := 3) rfl (by first | exact .inl rfl | exact .inr (.inl rfl) | exact .inr (.inr rfl)) (by decide) (by decide)) ea_nil rfl) rfl)) (fun _ => rfl))) (ess_one (es_raise PySem.F.excBase_ValueError W.e_Unfit rfl rfl (takes_of rfl rfl rfl rfl))) ess_nil) (ess_cons (es_set (i := 4) sc_longer_way.nd rfl (by first | exact .inl rfl | exact .inr rfl) (ee_L (el_lc (own := [("row", 7), ("_", 8)]) (t := .tp [.nm 7, .nm 8]) 3000 rfl sc_longer_way.nd (ei_seqd rfl (ee_var (i := 3) rfl (by first | exact .inl rfl | exact .inr (.inl rfl) | exact .inr (.inr rfl)) (by decide) (by decide))) (blkOk_by (by kernel_rfl)) (by decide) (fun s H C cl fp => ⟨(eg_tup rfl (eg_cons (eg_nm (i := 7) sc_longer_way.nd rfl (by first | exact .inl rfl | exact .inr rfl) (by first | exact .inl rfl | exact .inr rfl)) (eg_cons (eg_nm (i := 8) sc_longer_way.nd rfl (by first | exact .inl rfl | exact .inr rfl) (by first | exact .inl rfl | exact .inr rfl)) eg_nil))), et_yes, (ee_var (i := 7) rfl (by first | exact .inl rfl | exact .inr (.inl rfl) | exact .inr (.inr rfl)) (by decide) (by decide))⟩))) rfl (by first | exact .inl rfl | exact .inr rfl)) (ess_cons (es_setLc (i := 5) (own := [("row", 7)]) (t := .nm 7) 3000 rfl sc_longer_way.nd rfl rfl rfl (ei_rng1 rfl W.n_range (ea_cons (ee_callB cr_lend (co_lend rfl) rfl W.n_len PySem.boot_len (ea_cons (ee_ixd rfl (room_d hr) (ee_var (i := 2) rfl (by first | exact .inl rfl | exact .inr (.inl rfl) | exact .inr (.inr rfl)) (by decide) (by decide)) ee_int (fun _ _ => rfl)) ea_nil rfl)) ea_nil rfl)) (blkOk_by (by kernel_rfl)) (by decide) (fun s H C cl fp => ⟨(eg_nm (i := 7) sc_longer_way.nd rfl (by first | exact .inl rfl | exact .inr rfl) (by first | exact .inl rfl | exact .inr rfl)), (et_one (et_cmp (or_notinE (room_in hr)) (co_notinT rfl) (ee_var (i := 7) rfl (by first | exact .inl rfl | exact .inr (.inl rfl) | exact .inr (.inr rfl)) (by decide) (by decide)) (ee_var (i := 4) rfl (by first | exact .inl rfl | exact .inr (.inl rfl) | exact .inr (.inr rfl)) (by decide) (by decide)) rfl)), (ee_var (i := 7) rfl (by first | exact .inl rfl | exact .inr (.inl rfl) | exact .inr (.inr rfl)) (by decide) (by decide))⟩)) (ess_cons (es_set (i := 6) sc_longer_way.nd rfl (by first | exact .inl rfl | exact .inr rfl) (ee_call W.d_way_in (ok_way_in W k (by omega)) hr rfl (at_of (takes_of rfl rfl rfl rfl)) (ea_cons (ee_call W.d_adjoined (ok_adjoined W k (by omega)) hr rfl (at_of (takes_of rfl rfl rfl rfl)) (ea_cons (ee_var (i := 2) rfl (by first | exact .inl rfl | exact .inr (.inl rfl) | exact .inr (.inr rfl)) (by decide) (by decide)) ea_nil rfl)) (ea_cons (ee_callTyL (cr_dictL rfl (room_dd hr)) (lo_dict rfl) rfl W.n_dict boot_dict (el_lc (own := [("row", 7), ("column", 9)]) (t := .tp [.nm 7, .nm 9]) 3000 rfl sc_longer_way.nd (ei_seqd rfl (ee_var (i := 3) rfl (by first | exact .inl rfl | exact .inr (.inl rfl) | exact .inr (.inr rfl)) (by decide) (by decide))) (blkOk_by (by kernel_rfl)) (by decide) (fun s H C cl fp => ⟨(eg_tup rfl (eg_cons (eg_nm (i := 7) sc_longer_way.nd rfl (by first | exact .inl rfl | exact .inr rfl) (by first | exact .inl rfl | exact .inr rfl)) (eg_cons (eg_nm (i := 9) sc_longer_way.nd rfl (by first | exact .inl rfl | exact .inr rfl) (by first | exact .inl rfl | exact .inr rfl)) eg_nil))), et_yes, (ee_tup (ea_cons (ee_var (i := 9) rfl (by first | exact .inl rfl | exact .inr (.inl rfl) | exact .inr (.inr rfl)) (by decide) (by decide)) (ea_cons (ee_var (i := 7) rfl (by first | exact .inl rfl | exact .inr (.inl rfl) | exact .inr (.inr rfl)) (by decide) (by decide)) ea_nil rfl) rfl))⟩)) rfl) (ea_cons (ee_var (i := 5) rfl (by first | exact .inl rfl | exact .inr (.inl rfl) | exact .inr (.inr rfl)) (by decide) (by decide)) ea_nil rfl) rfl) rfl)) rfl (by first | exact .inl rfl | exact .inr rfl)) (ess_cons (es_if (et_cmp (op_eqD (room_eq hr)) co_eq (ee_var (i := 6) rfl (by first | exact .inl rfl | exact .inr (.inl rfl) | exact .inr (.inr rfl)) (by decide) (by decide)) (ee_tup ea_nil) rfl) (ess_one (es_raise PySem.F.excBase_LookupError W.e_NoPaper rfl rfl (takes_of rfl rfl rfl rfl))) ess_nil) (ess_one (es_ret (ee_var (i := 6) rfl (by first | exact .inl rfl | exact .inr (.inl rfl) | exact .inr (.inr rfl)) (by decide) (by decide))))))))))
theorem sc_is_narrow_in : FnScope ["lists", "rows", "row", "column"] ["lists", "rows"] (defScope s_is_narrow_in) := ⟨rfl, rfl, rfl, by decide +kernel, rfl, by decide +kernel, by decide +kernel⟩
def b_is_narrow_in : FS := fRet (eOfT (t2 (cInt fun i j => decide (i < j)) (fCallL lsetL (fLc2 (iSeqD (fVar 1)) (.nm 2) (fYes) (iSeqD (f2 gIxD (fVar 0) (fVar 2))) (.nm 3) (fYes) (fVar 3) [2, 3] [3] 3000)) (fCall cLenD (fCons (fVar 1) (fNil)))))
def f_is_narrow_in : GL := runF 4 b_is_narrow_in
theorem ok_is_narrow_in {P : Program} {K : PySem.W.Frag} {mg : Str → Option Value} {base : Heap} {g : Ev.Gl} (W : Wd K mg g) : ∀ k, 1 ≤ k → FnOk P g.w K mg base (L2.CX P g.w) k (g.fa 39) (g.fd 39) ["lists", "rows"] (spA g 2 f_is_narrow_in)
  | 0, h => absurd h (by decide)
  | k + 1, h => ok_fn (N := ["lists", "rows", "row", "column"]) (ps := ["lists", "rows"]) (body := b_is_narrow_in) W.d_is_narrow_in.F sc_is_narrow_in fun cdv A outer s H E hr => by
    unfold b_is_narrow_in
    exact (ess_one (es_ret (ee_cmp op_lt co_int (ee_lsL rfl (room_ss hr) rfl W.n_len rfl W.n_set (el_lc2 (own := [("row", 2), ("column", 3)]) (vs1 := [3]) (t := .nm 2) (t1 := .nm 3) 3000 rfl sc_is_narrow_in.nd (ei_seqd rfl (ee_var (i := 1) rfl (by first | exact .inl rfl | exact .inr (.inl rfl) | exact .inr (.inr rfl)) (by decide) (by decide))) (blkOk_by (by kernel_rfl)) (by decide) (by decide) (by decide) (fun s H C cl fp => ⟨(eg_nm (i := 2) sc_is_narrow_in.nd rfl (by first | exact .inl rfl | exact .inr rfl) (by first | exact .inl rfl | exact .inr rfl)), et_yes, (ei_seqd rfl (ee_ixd rfl (room_d hr) (ee_var (i := 0) rfl (by first | exact .inl rfl | exact .inr (.inl rfl) | exact .inr (.inr rfl)) (by decide) (by decide)) (ee_var (i := 2) rfl (by first | exact .inl rfl | exact .inr (.inl rfl) | exact .inr (.inr rfl)) (by decide) (by decide)) (fun _ _ => rfl))), (eg_nm (i := 3) sc_is_narrow_in.nd rfl (by first | exact .inl rfl | exact .inr rfl) (by first | exact .inl rfl | exact .inr rfl)), et_yes, (ee_var (i := 3) rfl (by first | exact .inl rfl | exact .inr (.inl rfl) | exact .inr (.inr rfl)) (by decide) (by decide))⟩)) rfl) (ee_callB cr_lend (co_lend rfl) rfl W.n_len PySem.boot_len (ea_cons (ee_var (i := 1) rfl (by first | exact .inl rfl | exact .inr (.inl rfl) | exact .inr (.inr rfl)) (by decide) (by decide)) ea_nil rfl)) rfl)))
theorem sc_pairs_grown : FnScope ["lists", "pairs", "mates", "row", "way", "near", "far", "column"] ["lists", "pairs"] (defScope s_pairs_grown) := ⟨rfl, rfl, rfl, by decide +kernel, rfl, by decide +kernel, by decide +kernel⟩
def b_pairs_grown : FS := fSeq (fSet 2 (fCallL dictL (fLc (iSeqD (fVar 1)) (.tp [.nm 3, .nm 7]) (fYes) (fTup (fCons (fVar 7) (fCons (fVar 3) (fNil)))) [3, 7] 3000))) (fSeq (fFor (iRng1A (fCons (fCall cLenD (fCons (fVar 0) (fNil))) (fNil))) (.nm 3) (fIfS (t2 (cVals true) (fVar 3) (fVar 2)) (fSeq (fSet 4 (fCallU 3 (f_way_in) (fCons (fVar 0) (fCons (fVar 2) (fCons (fLst (fCons (fVar 3) (fNil))) (fNil)))))) (fFor (iZipA2 (fCons (fStep (fVar 4) (oNone) 2) (fCons (fStep (fVar 4) (oSome (fCon (.int 1))) 2) (fNil)))) (.tp [.nm 5, .nm 6]) (fSetD (fVar 5) (fVar 2) (fVar 6)) 3000)) (fNext)) 3000) (fRet (fVar 2)))
def f_pairs_grown : GL := runF 8 b_pairs_grown
theorem ok_pairs_grown {P : Program} {K : PySem.W.Frag} {mg : Str → Option Value} {base : Heap} {g : Ev.Gl} (W : Wd K mg g) : ∀ k, 3 ≤ k → FnOk P g.w K mg base (L2.CX P g.w) k (g.fa 17) (g.fd 17) ["lists", "pairs"] (spA g 2 f_pairs_grown)
  | 0, h => absurd h (by decide)
  | k + 1, h => ok_fn (N := ["lists", "pairs", "mates", "row", "way", "near", "far", "column"]) (ps := ["lists", "pairs"]) (body := b_pairs_grown) W.d_pairs_grown.F sc_pairs_grown fun cdv A outer s H E hr => by
    unfold b_pairs_grown
    exact (ess_cons (es_set (i := 2) sc_pairs_grown.nd rfl (by first | exact .inl rfl | exact .inr rfl) (ee_callTyL (cr_dictL rfl (room_dd hr)) (lo_dict rfl) rfl W.n_dict boot_dict (el_lc (own := [("row", 3), ("column", 7)]) (t := .tp [.nm 3, .nm 7]) 3000 rfl sc_pairs_grown.nd (ei_seqd rfl (ee_var (i := 1) rfl (by first | exact .inl rfl | exact .inr (.inl rfl) | exact .inr (.inr rfl)) (by decide) (by decide))) (blkOk_by (by kernel_rfl)) (by decide) (fun s H C cl fp => ⟨(eg_tup rfl (eg_cons (eg_nm (i := 3) sc_pairs_grown.nd rfl (by first | exact .inl rfl | exact .inr rfl) (by first | exact .inl rfl | exact .inr rfl)) (eg_cons (eg_nm (i := 7) sc_pairs_grown.nd rfl (by first | exact .inl rfl | exact .inr rfl) (by first | exact .inl rfl | exact .inr rfl)) eg_nil))), et_yes, (ee_tup (ea_cons (ee_var (i := 7) rfl (by first | exact .inl rfl | exact .inr (.inl rfl) | exact .inr (.inr rfl)) (by decide) (by decide)) (ea_cons (ee_var (i := 3) rfl (by first | exact .inl rfl | exact .inr (.inl rfl) | exact .inr (.inr rfl)) (by decide) (by decide)) ea_nil rfl) rfl))⟩)) rfl) rfl (by first | exact .inl rfl | exact .inr rfl)) (ess_cons (es_for 3000 (passes_of rfl) rfl (ei_rng1 rfl W.n_range (ea_cons (ee_callB cr_lend (co_lend rfl) rfl W.n_len PySem.boot_len (ea_cons (ee_var (i := 0) rfl (by first | exact .inl rfl | exact .inr (.inl rfl) | exact .inr (.inr rfl)) (by decide) (by decide)) ea_nil rfl)) ea_nil rfl)) (eg_nm (i := 3) sc_pairs_grown.nd rfl (by first | exact .inl rfl | exact .inr rfl) (by first | exact .inl rfl | exact .inr rfl)) (ess_one (es_if (et_vals (neg := true) rfl rfl rfl (ee_var (i := 3) rfl (by first | exact .inl rfl | exact .inr (.inl rfl) | exact .inr (.inr rfl)) (by decide) (by decide)) (ee_var (i := 2) rfl (by first | exact .inl rfl | exact .inr (.inl rfl) | exact .inr (.inr rfl)) (by decide) (by decide))) (ess_cons (es_set (i := 4) sc_pairs_grown.nd rfl (by first | exact .inl rfl | exact .inr rfl) (ee_call W.d_way_in (ok_way_in W k (by omega)) hr rfl (at_of (takes_of rfl rfl rfl rfl)) (ea_cons (ee_var (i := 0) rfl (by first | exact .inl rfl | exact .inr (.inl rfl) | exact .inr (.inr rfl)) (by decide) (by decide)) (ea_cons (ee_var (i := 2) rfl (by first | exact .inl rfl | exact .inr (.inl rfl) | exact .inr (.inr rfl)) (by decide) (by decide)) (ea_cons (ee_lst (ea_cons (ee_var (i := 3) rfl (by first | exact .inl rfl | exact .inr (.inl rfl) | exact .inr (.inr rfl)) (by decide) (by decide)) ea_nil rfl)) ea_nil rfl) rfl) rfl)) rfl (by first | exact .inl rfl | exact .inr rfl)) (ess_one (es_for 3000 (passes_of rfl) rfl (ei_zip rfl W.n_zip (ea_cons (ee_step (ee_var (i := 4) rfl (by first | exact .inl rfl | exact .inr (.inl rfl) | exact .inr (.inr rfl)) (by decide) (by decide)) eo_none po_int) (ea_cons (ee_step (ee_var (i := 4) rfl (by first | exact .inl rfl | exact .inr (.inl rfl) | exact .inr (.inr rfl)) (by decide) (by decide)) (eo_some ee_int) po_int) ea_nil rfl) rfl)) (eg_tup rfl (eg_cons (eg_nm (i := 5) sc_pairs_grown.nd rfl (by first | exact .inl rfl | exact .inr rfl) (by first | exact .inl rfl | exact .inr rfl)) (eg_cons (eg_nm (i := 6) sc_pairs_grown.nd rfl (by first | exact .inl rfl | exact .inr rfl) (by first | exact .inl rfl | exact .inr rfl)) eg_nil))) (ess_one (es_setd rfl (room_d hr) (ee_var (i := 5) rfl (by first | exact .inl rfl | exact .inr (.inl rfl) | exact .inr (.inr rfl)) (by decide) (by decide)) (ee_var (i := 2) rfl (by first | exact .inl rfl | exact .inr (.inl rfl) | exact .inr (.inr rfl)) (by decide) (by decide)) (ee_var (i := 6) rfl (by first | exact .inl rfl | exact .inr (.inl rfl) | exact .inr (.inr rfl)) (by decide) (by decide))))))) ess_nil))) (ess_one (es_ret (ee_var (i := 2) rfl (by first | exact .inl rfl | exact .inr (.inl rfl) | exact .inr (.inr rfl)) (by decide) (by decide))))))
theorem sc_rank_of : FnScope ["pattern"] ["pattern"] (defScope s_rank_of) := ⟨rfl, rfl, rfl, by decide +kernel, rfl, by decide +kernel, by decide +kernel⟩
def b_rank_of : FS := fRet (fCall cLenD (fCons (fCallU 2 (f_pairs_grown) (fCons (fCallU 1 (f_adjoined) (fCons (fVar 0) (fNil))) (fCons (fTup (fNil)) (fNil)))) (fNil)))
def f_rank_of : GL := runF 1 b_rank_of
theorem ok_rank_of {P : Program} {K : PySem.W.Frag} {mg : Str → Option Value} {base : Heap} {g : Ev.Gl} (W : Wd K mg g) : ∀ k, 4 ≤ k → FnOk P g.w K mg base (L2.CX P g.w) k (g.fa 21) (g.fd 21) ["pattern"] (spA g 1 f_rank_of)
  | 0, h => absurd h (by decide)
  | k + 1, h => ok_fn (N := ["pattern"]) (ps := ["pattern"]) (body := b_rank_of) W.d_rank_of.F sc_rank_of fun cdv A outer s H E hr => by
    unfold b_rank_of
    exact (ess_one (es_ret (ee_callB cr_lend (co_lend rfl) rfl W.n_len PySem.boot_len (ea_cons (ee_call W.d_pairs_grown (ok_pairs_grown W k (by omega)) hr rfl (at_of (takes_of rfl rfl rfl rfl)) (ea_cons (ee_call W.d_adjoined (ok_adjoined W k (by omega)) hr rfl (at_of (takes_of rfl rfl rfl rfl)) (ea_cons (ee_var (i := 0) rfl (by first | exact .inl rfl | exact .inr (.inl rfl) | exact .inr (.inr rfl)) (by decide) (by decide)) ea_nil rfl)) (ea_cons (ee_tup ea_nil) ea_nil rfl) rfl)) ea_nil rfl))))
theorem sc_subsets : FnScope ["things", "found", "own", "_", "lot"] ["things"] (defScope s_subsets) := ⟨rfl, rfl, rfl, by decide +kernel, rfl, by decide +kernel, by decide +kernel⟩
def b_subsets : FS := fSeq (fSet 1 (fLst (fCons (fTup (fNil)) (fNil)))) (fSeq (fFor (iSeqD (fCall cSort (fCons (fVar 0) (fNil)))) (.nm 2) (fSet 1 (f2 gAdd (fVar 1) (eOfL (fLc (iSeqD (fVar 1)) (.nm 4) (fYes) (f2 gAdd (fVar 4) (fTup (fCons (fVar 2) (fNil)))) [4] 3000)))) 3000) (fRet (eOfL (fLc (iSeqD (fCallL sortL (fLc (iSeqD (fVar 1)) (.nm 4) (fYes) (fTup (fCons (fCall cLenD (fCons (fVar 4) (fNil))) (fCons (fVar 4) (fNil)))) [4] 3000))) (.tp [.nm 3, .nm 4]) (fYes) (fVar 4) [3, 4] 3000))))
def f_subsets : GL := runF 5 b_subsets
theorem ok_subsets {P : Program} {K : PySem.W.Frag} {mg : Str → Option Value} {base : Heap} {g : Ev.Gl} (W : Wd K mg g) : ∀ k, 1 ≤ k → FnOk P g.w K mg base (L2.CX P g.w) k (g.fa 8) (g.fd 8) ["things"] (spA g 1 f_subsets)
  | 0, h => absurd h (by decide)
  | k + 1, h => ok_fn (N := ["things", "found", "own", "_", "lot"]) (ps := ["things"]) (body := b_subsets) W.d_subsets.F sc_subsets fun cdv A outer s H E hr => by
    unfold b_subsets
    exact (ess_cons (es_set (i := 1) sc_subsets.nd rfl (by first | exact .inl rfl | exact .inr rfl) (ee_lst (ea_cons (ee_tup ea_nil) ea_nil rfl)) rfl (by first | exact .inl rfl | exact .inr rfl)) (ess_cons (es_for 3000 (passes_of rfl) rfl (ei_seqd rfl (ee_callB (cr_sortV (room_sort hr)) co_sort rfl W.n_sorted boot_sorted (ea_cons (ee_var (i := 0) rfl (by first | exact .inl rfl | exact .inr (.inl rfl) | exact .inr (.inr rfl)) (by decide) (by decide)) ea_nil rfl))) (eg_nm (i := 2) sc_subsets.nd rfl (by first | exact .inl rfl | exact .inr rfl) (by first | exact .inl rfl | exact .inr rfl)) (ess_one (es_set (i := 1) sc_subsets.nd rfl (by first | exact .inl rfl | exact .inr rfl) (ee_op or_add bo_add (ee_var (i := 1) rfl (by first | exact .inl rfl | exact .inr (.inl rfl) | exact .inr (.inr rfl)) (by decide) (by decide)) (ee_L (el_lc (own := [("lot", 4)]) (t := .nm 4) 3000 rfl sc_subsets.nd (ei_seqd rfl (ee_var (i := 1) rfl (by first | exact .inl rfl | exact .inr (.inl rfl) | exact .inr (.inr rfl)) (by decide) (by decide))) (blkOk_by (by kernel_rfl)) (by decide) (fun s H C cl fp => ⟨(eg_nm (i := 4) sc_subsets.nd rfl (by first | exact .inl rfl | exact .inr rfl) (by first | exact .inl rfl | exact .inr rfl)), et_yes, (ee_op or_add bo_add (ee_var (i := 4) rfl (by first | exact .inl rfl | exact .inr (.inl rfl) | exact .inr (.inr rfl)) (by decide) (by decide)) (ee_tup (ea_cons (ee_var (i := 2) rfl (by first | exact .inl rfl | exact .inr (.inl rfl) | exact .inr (.inr rfl)) (by decide) (by decide)) ea_nil rfl)))⟩)))) rfl (by first | exact .inl rfl | exact .inr rfl)))) (ess_one (es_ret (ee_L (el_lc (own := [("_", 3), ("lot", 4)]) (t := .tp [.nm 3, .nm 4]) 3000 rfl sc_subsets.nd (ei_seqd rfl (ee_callBL (cr_sortV (room_sort hr)) lo_sort rfl W.n_sorted boot_sorted (el_lc (own := [("lot", 4)]) (t := .nm 4) 3000 rfl sc_subsets.nd (ei_seqd rfl (ee_var (i := 1) rfl (by first | exact .inl rfl | exact .inr (.inl rfl) | exact .inr (.inr rfl)) (by decide) (by decide))) (blkOk_by (by kernel_rfl)) (by decide) (fun s H C cl fp => ⟨(eg_nm (i := 4) sc_subsets.nd rfl (by first | exact .inl rfl | exact .inr rfl) (by first | exact .inl rfl | exact .inr rfl)), et_yes, (ee_tup (ea_cons (ee_callB cr_lend (co_lend rfl) rfl W.n_len PySem.boot_len (ea_cons (ee_var (i := 4) rfl (by first | exact .inl rfl | exact .inr (.inl rfl) | exact .inr (.inr rfl)) (by decide) (by decide)) ea_nil rfl)) (ea_cons (ee_var (i := 4) rfl (by first | exact .inl rfl | exact .inr (.inl rfl) | exact .inr (.inr rfl)) (by decide) (by decide)) ea_nil rfl) rfl))⟩)) rfl)) (blkOk_by (by kernel_rfl)) (by decide) (fun s H C cl fp => ⟨(eg_tup rfl (eg_cons (eg_nm (i := 3) sc_subsets.nd rfl (by first | exact .inl rfl | exact .inr rfl) (by first | exact .inl rfl | exact .inr rfl)) (eg_cons (eg_nm (i := 4) sc_subsets.nd rfl (by first | exact .inl rfl | exact .inr rfl) (by first | exact .inl rfl | exact .inr rfl)) eg_nil))), et_yes, (ee_var (i := 4) rfl (by first | exact .inl rfl | exact .inr (.inl rfl) | exact .inr (.inr rfl)) (by decide) (by decide))⟩)))))))
theorem sc_narrow_rows : FnScope ["pattern", "own", "lists", "rows"] ["pattern"] (defScope s_narrow_rows) := ⟨rfl, rfl, rfl, by decide +kernel, rfl, by decide +kernel, by decide +kernel⟩
def b_narrow_rows : FS := fSeq (fSet 1 (fCallU 1 (f_sure_pattern) (fCons (fVar 0) (fNil)))) (fSeq (fSet 2 (fCallU 1 (f_adjoined) (fCons (fVar 1) (fNil)))) (fSeq (fIfS (t2 (cInt fun i j => decide (i < j)) (fCallU 1 (f_rank_of) (fCons (fVar 1) (fNil))) (fCall cLenD (fCons (fVar 2) (fNil)))) (fFor (iSeqD (fCallU 1 (f_subsets) (fCons (fLstRg (fCons (fCall cLenD (fCons (fVar 2) (fNil))) fNil)) (fNil)))) (.nm 3) (fIfS (tOfE (fCallU 2 (f_is_narrow_in) (fCons (fVar 2) (fCons (fVar 3) (fNil))))) (fRet (fVar 3)) (fNext)) 3000) (fNext)) (fRaise 0)))
def f_narrow_rows : GL := runF 4 b_narrow_rows
theorem ok_narrow_rows {P : Program} {K : PySem.W.Frag} {mg : Str → Option Value} {base : Heap} {g : Ev.Gl} (W : Wd K mg g) : ∀ k, 15 ≤ k → FnOk P g.w K mg base (L2.CX P g.w) k (g.fa 37) (g.fd 37) ["pattern"] (spA g 1 f_narrow_rows)
  | 0, h => absurd h (by decide)
  | k + 1, h => ok_fn (N := ["pattern", "own", "lists", "rows"]) (ps := ["pattern"]) (body := b_narrow_rows) W.d_narrow_rows.F sc_narrow_rows fun cdv A outer s H E hr => by
    unfold b_narrow_rows
    exact (ess_cons (es_set (i := 1) sc_narrow_rows.nd rfl (by first | exact .inl rfl | exact .inr rfl) (ee_call W.d_sure_pattern (ok_sure_pattern W k (by omega)) hr rfl (at_of (takes_of rfl rfl rfl rfl)) (ea_cons (ee_var (i := 0) rfl (by first | exact .inl rfl | exact .inr (.inl rfl) | exact .inr (.inr rfl)) (by decide) (by decide)) ea_nil rfl)) rfl (by first | exact .inl rfl | exact .inr rfl)) (ess_cons (es_set (i := 2) sc_narrow_rows.nd rfl (by first | exact .inl rfl | exact .inr rfl) (ee_call W.d_adjoined (ok_adjoined W k (by omega)) hr rfl (at_of (takes_of rfl rfl rfl rfl)) (ea_cons (ee_var (i := 1) rfl (by first | exact .inl rfl | exact .inr (.inl rfl) | exact .inr (.inr rfl)) (by decide) (by decide)) ea_nil rfl)) rfl (by first | exact .inl rfl | exact .inr rfl)) (ess_cons (es_if (et_cmp op_lt co_int (ee_call W.d_rank_of (ok_rank_of W k (by omega)) hr rfl (at_of (takes_of rfl rfl rfl rfl)) (ea_cons (ee_var (i := 1) rfl (by first | exact .inl rfl | exact .inr (.inl rfl) | exact .inr (.inr rfl)) (by decide) (by decide)) ea_nil rfl)) (ee_callB cr_lend (co_lend rfl) rfl W.n_len PySem.boot_len (ea_cons (ee_var (i := 2) rfl (by first | exact .inl rfl | exact .inr (.inl rfl) | exact .inr (.inr rfl)) (by decide) (by decide)) ea_nil rfl)) rfl) (ess_one (es_for 3000 (passes_of rfl) rfl (ei_seqd rfl (ee_call W.d_subsets (ok_subsets W k (by omega)) hr rfl (at_of (takes_of rfl rfl rfl rfl)) (ea_cons (ee_listRg1 rfl rfl W.n_list rfl W.n_range (ee_callB cr_lend (co_lend rfl) rfl W.n_len PySem.boot_len (ea_cons (ee_var (i := 2) rfl (by first | exact .inl rfl | exact .inr (.inl rfl) | exact .inr (.inr rfl)) (by decide) (by decide)) ea_nil rfl))) ea_nil rfl))) (eg_nm (i := 3) sc_narrow_rows.nd rfl (by first | exact .inl rfl | exact .inr rfl) (by first | exact .inl rfl | exact .inr rfl)) (ess_one (es_if (et_truth (ee_call W.d_is_narrow_in (ok_is_narrow_in W k (by omega)) hr rfl (at_of (takes_of rfl rfl rfl rfl)) (ea_cons (ee_var (i := 2) rfl (by first | exact .inl rfl | exact .inr (.inl rfl) | exact .inr (.inr rfl)) (by decide) (by decide)) (ea_cons (ee_var (i := 3) rfl (by first | exact .inl rfl | exact .inr (.inl rfl) | exact .inr (.inr rfl)) (by decide) (by decide)) ea_nil rfl) rfl)) (fun _ => rfl)) (ess_one (es_ret (ee_var (i := 3) rfl (by first | exact .inl rfl | exact .inr (.inl rfl) | exact .inr (.inr rfl)) (by decide) (by decide)))) ess_nil)))) ess_nil) (ess_one (es_raise PySem.F.excBase_LookupError W.e_NoPaper rfl rfl (takes_of rfl rfl rfl rfl))))))
theorem sc__law_heard : FnScope ["door", "pattern", "pairs", "told_so"] ["door", "pattern", "pairs"] (defScope s__law_heard) := ⟨rfl, rfl, rfl, by decide +kernel, rfl, by decide +kernel, by decide +kernel⟩
def b__law_heard : FS := fTryAs 2 3 sub_NoPaper (fRet (fIsE 3 (isE_LookupError))) (fRet (fIf (t2 (cEq false) (fVar 0) (fCon (.int 0))) (fCallU 2 (f_longer_way) (fCons (fVar 1) (fCons (fVar 2) (fNil)))) (fCallU 1 (f_narrow_rows) (fCons (fVar 1) (fNil)))))
def f__law_heard : GL := runF 4 b__law_heard
theorem ok__law_heard {P : Program} {K : PySem.W.Frag} {mg : Str → Option Value} {base : Heap} {g : Ev.Gl} (W : Wd K mg g) : ∀ k, 16 ≤ k → FnOk P g.w K mg base (L2.CX P g.w) k (g.fa 45) (g.fd 45) ["door", "pattern", "pairs"] (spA g 3 f__law_heard)
  | 0, h => absurd h (by decide)
  | k + 1, h => ok_fn (N := ["door", "pattern", "pairs", "told_so"]) (ps := ["door", "pattern", "pairs"]) (body := b__law_heard) W.d__law_heard.F sc__law_heard fun cdv A outer s H E hr => by
    unfold b__law_heard
    exact (ess_one (es_tryAs (i := 3) (jc := 0) rfl rfl sc__law_heard.nd rfl rfl ⟨rfl, by decide, .inl W.e_NoPaper.m⟩ (takes_of rfl rfl rfl rfl) W.x_NoPaper (fun WW pn xe tk hp => (ess_one (es_ret (ee_if (et_cmp (op_eqD (room_eq hr)) co_eq (ee_var (i := 0) rfl (by first | exact .inl rfl | exact .inr (.inl rfl) | exact .inr (.inr rfl)) (by decide) (by decide)) ee_int rfl) (ee_call W.d_longer_way (ok_longer_way W k (by omega)) hr rfl (at_of tk) (ea_cons (ee_var (i := 1) rfl (by first | exact .inl rfl | exact .inr (.inl rfl) | exact .inr (.inr rfl)) (by decide) (by decide)) (ea_cons (ee_var (i := 2) rfl (by first | exact .inl rfl | exact .inr (.inl rfl) | exact .inr (.inr rfl)) (by decide) (by decide)) ea_nil rfl) rfl)) (ee_call W.d_narrow_rows (ok_narrow_rows W k (by omega)) hr rfl (at_of tk) (ea_cons (ee_var (i := 1) rfl (by first | exact .inl rfl | exact .inr (.inl rfl) | exact .inr (.inr rfl)) (by decide) (by decide)) ea_nil rfl)))))) (fun a oe j pn hj hz hfd => (ess_one (es_ret (ee_isE hz hfd (W.xc j hj) (W.xk_LookupError j hj) rfl W.n_isinstance (i := 3) rfl (by first | exact .inl rfl | exact .inr (.inl rfl) | exact .inr (.inr rfl)) rfl W.n_LookupError bt_LookupError))))))
theorem sc__law_lists : FnScope ["matter", "bit"] ["matter"] (defScope s__law_lists) := ⟨rfl, rfl, rfl, by decide +kernel, rfl, by decide +kernel, by decide +kernel⟩
def b__law_lists (C : GL) : FS := fRet (fIf (tOfE (fCall cIsi (fCons (fVar 0) (fCons (fTup (fCons (fCon (.ty .list)) (fCons (fCon (.ty .tuple)) (fNil)))) (fNil))))) (eOfL (fLcX (iSeqD (fVar 0)) (.nm 1) (fYes) (fCallU 1 C (fCons (fVar 1) (fNil))) [1] 3000)) (fVar 0))
def f__law_lists : Nat → GL
  | 0 => fun _ _ => .no
  | m + 1 => runF 2 (b__law_lists (f__law_lists m))
theorem ok__law_lists {P : Program} {K : PySem.W.Frag} {mg : Str → Option Value} {base : Heap} {g : Ev.Gl} (W : Wd K mg g) : ∀ m k, m + 0 ≤ k → FnOk P g.w K mg base (L2.CX P g.w) k (g.fa 42) (g.fd 42) ["matter"] (spA g 1 (f__law_lists m))
  | 0, _, _ => ok_no
  | _ + 1, 0, h => absurd h (by omega)
  | m + 1, k + 1, h => by
    have ih := ok__law_lists (P := P) (base := base) W m
    exact ok_fn (N := ["matter", "bit"]) (ps := ["matter"]) (body := b__law_lists (f__law_lists m)) W.d__law_lists.F sc__law_lists fun cdv A outer s H E hr => by
      unfold b__law_lists
      exact (ess_one (es_ret (ee_if (et_truth (ee_callB cr_isi co_isi rfl W.n_isinstance boot_isinstance (ea_cons (ee_var (i := 0) rfl (by first | exact .inl rfl | exact .inr (.inl rfl) | exact .inr (.inr rfl)) (by decide) (by decide)) (ea_cons (ee_tup (ea_cons (ee_ty .list rfl W.n_list boot_list) (ea_cons (ee_ty .tuple rfl W.n_tuple boot_tuple) ea_nil rfl) rfl)) ea_nil rfl) rfl)) (fun _ => rfl)) (ee_L (el_lcX (own := [("bit", 1)]) (t := .nm 1) 3000 rfl sc__law_lists.nd (pas_of (takes_of rfl rfl rfl rfl) rfl rfl) (ei_seqd rfl (ee_var (i := 0) rfl (by first | exact .inl rfl | exact .inr (.inl rfl) | exact .inr (.inr rfl)) (by decide) (by decide))) (blkOk_by (by kernel_rfl)) (by decide) (fun s H C cl fp xe E pb => ⟨(eg_nm (i := 1) sc__law_lists.nd rfl (by first | exact .inl rfl | exact .inr rfl) (by first | exact .inl rfl | exact .inr rfl)), et_yes, (ee_call W.d__law_lists (ih k (by omega)) hr rfl pb.call (ea_cons (ee_var (i := 1) rfl (by first | exact .inl rfl | exact .inr (.inl rfl) | exact .inr (.inr rfl)) (by decide) (by decide)) ea_nil rfl))⟩))) (ee_var (i := 0) rfl (by first | exact .inl rfl | exact .inr (.inl rfl) | exact .inr (.inr rfl)) (by decide) (by decide)))))
theorem sc_cover_in : FnScope ["pattern", "lists", "most", "rows", "columns", "row", "line", "column"] ["pattern"] (defScope s_cover_in) := ⟨rfl, rfl, rfl, by decide +kernel, rfl, by decide +kernel, by decide +kernel⟩
def b_cover_in : FS := fSeq (fPar 1 2 (fCons (fCallU 1 (f_adjoined) (fCons (fVar 0) (fNil))) (fCons (fCallU 1 (f_rank_of) (fCons (fVar 0) (fNil))) (fNil)))) (fSeq (fFor (iSeqD (fCallU 1 (f_subsets) (fCons (fLstRg (fCons (fCall cLenD (fCons (fVar 1) (fNil))) fNil)) (fNil)))) (.nm 3) (fSeq (fSet 4 (fCallU 1 (f_set_of) (fCons (eOfL (fLc2 (iEnumA (fCons (fVar 1) (fNil))) (.tp [.nm 5, .nm 6]) (t2 (cInE true) (fVar 5) (fVar 3)) (iSeqD (fVar 6)) (.nm 7) (fYes) (fVar 7) [5, 6, 7] [7] 3000)) (fNil)))) (fIfS (t2 (cEq false) (f2 gAdd (fCall cLenD (fCons (fVar 3) (fNil))) (fCall cLenD (fCons (fVar 4) (fNil)))) (fVar 2)) (fRet (fTup (fCons (fVar 3) (fCons (fVar 4) (fNil))))) (fNext))) 3000) (fRaise 0))
def f_cover_in : GL := runF 8 b_cover_in
theorem ok_cover_in {P : Program} {K : PySem.W.Frag} {mg : Str → Option Value} {base : Heap} {g : Ev.Gl} (W : Wd K mg g) : ∀ k, 5 ≤ k → FnOk P g.w K mg base (L2.CX P g.w) k (g.fa 32) (g.fd 32) ["pattern"] (spA g 1 f_cover_in)
  | 0, h => absurd h (by decide)
  | k + 1, h => ok_fn (N := ["pattern", "lists", "most", "rows", "columns", "row", "line", "column"]) (ps := ["pattern"]) (body := b_cover_in) W.d_cover_in.F sc_cover_in fun cdv A outer s H E hr => by
    unfold b_cover_in
    exact (ess_cons (es_par (i := 1) (j := 2) rfl sc_cover_in.nd rfl rfl (by decide) rfl rfl (ea_cons (ee_call W.d_adjoined (ok_adjoined W k (by omega)) hr rfl (at_of (takes_of rfl rfl rfl rfl)) (ea_cons (ee_var (i := 0) rfl (by first | exact .inl rfl | exact .inr (.inl rfl) | exact .inr (.inr rfl)) (by decide) (by decide)) ea_nil rfl)) (ea_cons (ee_call W.d_rank_of (ok_rank_of W k (by omega)) hr rfl (at_of (takes_of rfl rfl rfl rfl)) (ea_cons (ee_var (i := 0) rfl (by first | exact .inl rfl | exact .inr (.inl rfl) | exact .inr (.inr rfl)) (by decide) (by decide)) ea_nil rfl)) ea_nil rfl) rfl) rfl) (ess_cons (es_for 3000 (passes_of rfl) rfl (ei_seqd rfl (ee_call W.d_subsets (ok_subsets W k (by omega)) hr rfl (at_of (takes_of rfl rfl rfl rfl)) (ea_cons (ee_listRg1 rfl rfl W.n_list rfl W.n_range (ee_callB cr_lend (co_lend rfl) rfl W.n_len PySem.boot_len (ea_cons (ee_var (i := 1) rfl (by first | exact .inl rfl | exact .inr (.inl rfl) | exact .inr (.inr rfl)) (by decide) (by decide)) ea_nil rfl))) ea_nil rfl))) (eg_nm (i := 3) sc_cover_in.nd rfl (by first | exact .inl rfl | exact .inr rfl) (by first | exact .inl rfl | exact .inr rfl)) (ess_cons (es_set (i := 4) sc_cover_in.nd rfl (by first | exact .inl rfl | exact .inr rfl) (ee_call W.d_set_of (ok_set_of W k (by omega)) hr rfl (at_of (takes_of rfl rfl rfl rfl)) (ea_cons (ee_L (el_lc2 (own := [("row", 5), ("line", 6), ("column", 7)]) (vs1 := [7]) (t := .tp [.nm 5, .nm 6]) (t1 := .nm 7) 3000 rfl sc_cover_in.nd (ei_enum rfl W.n_enumerate (ea_cons (ee_var (i := 1) rfl (by first | exact .inl rfl | exact .inr (.inl rfl) | exact .inr (.inr rfl)) (by decide) (by decide)) ea_nil rfl)) (blkOk_by (by kernel_rfl)) (by decide) (by decide) (by decide) (fun s H C cl fp => ⟨(eg_tup rfl (eg_cons (eg_nm (i := 5) sc_cover_in.nd rfl (by first | exact .inl rfl | exact .inr rfl) (by first | exact .inl rfl | exact .inr rfl)) (eg_cons (eg_nm (i := 6) sc_cover_in.nd rfl (by first | exact .inl rfl | exact .inr rfl) (by first | exact .inl rfl | exact .inr rfl)) eg_nil))), (et_one (et_cmp (or_notinE (room_in hr)) (co_notinT rfl) (ee_var (i := 5) rfl (by first | exact .inl rfl | exact .inr (.inl rfl) | exact .inr (.inr rfl)) (by decide) (by decide)) (ee_var (i := 3) rfl (by first | exact .inl rfl | exact .inr (.inl rfl) | exact .inr (.inr rfl)) (by decide) (by decide)) rfl)), (ei_seqd rfl (ee_var (i := 6) rfl (by first | exact .inl rfl | exact .inr (.inl rfl) | exact .inr (.inr rfl)) (by decide) (by decide))), (eg_nm (i := 7) sc_cover_in.nd rfl (by first | exact .inl rfl | exact .inr rfl) (by first | exact .inl rfl | exact .inr rfl)), et_yes, (ee_var (i := 7) rfl (by first | exact .inl rfl | exact .inr (.inl rfl) | exact .inr (.inr rfl)) (by decide) (by decide))⟩))) ea_nil rfl)) rfl (by first | exact .inl rfl | exact .inr rfl)) (ess_one (es_if (et_cmp (op_eqD (room_eq hr)) co_eq (ee_op or_add bo_add (ee_callB cr_lend (co_lend rfl) rfl W.n_len PySem.boot_len (ea_cons (ee_var (i := 3) rfl (by first | exact .inl rfl | exact .inr (.inl rfl) | exact .inr (.inr rfl)) (by decide) (by decide)) ea_nil rfl)) (ee_callB cr_lend (co_lend rfl) rfl W.n_len PySem.boot_len (ea_cons (ee_var (i := 4) rfl (by first | exact .inl rfl | exact .inr (.inl rfl) | exact .inr (.inr rfl)) (by decide) (by decide)) ea_nil rfl))) (ee_var (i := 2) rfl (by first | exact .inl rfl | exact .inr (.inl rfl) | exact .inr (.inr rfl)) (by decide) (by decide)) rfl) (ess_one (es_ret (ee_tup (ea_cons (ee_var (i := 3) rfl (by first | exact .inl rfl | exact .inr (.inl rfl) | exact .inr (.inr rfl)) (by decide) (by decide)) (ea_cons (ee_var (i := 4) rfl (by first | exact .inl rfl | exact .inr (.inl rfl) | exact .inr (.inr rfl)) (by decide) (by decide)) ea_nil rfl) rfl)))) ess_nil)))) (ess_one (es_raise PySem.F.excBase_LookupError W.e_NoPaper rfl rfl (takes_of rfl rfl rfl rfl)))))
theorem sc_cover : FnScope ["pattern"] ["pattern"] (defScope s_cover) := ⟨rfl, rfl, rfl, by decide +kernel, rfl, by decide +kernel, by decide +kernel⟩
def b_cover : FS := fRet (fCallU 1 (f_cover_in) (fCons (fCallU 1 (f_sure_pattern) (fCons (fVar 0) (fNil))) (fNil)))
def f_cover : GL := runF 1 b_cover
theorem ok_cover {P : Program} {K : PySem.W.Frag} {mg : Str → Option Value} {base : Heap} {g : Ev.Gl} (W : Wd K mg g) : ∀ k, 15 ≤ k → FnOk P g.w K mg base (L2.CX P g.w) k (g.fa 31) (g.fd 31) ["pattern"] (spA g 1 f_cover)
  | 0, h => absurd h (by decide)
  | k + 1, h => ok_fn (N := ["pattern"]) (ps := ["pattern"]) (body := b_cover) W.d_cover.F sc_cover fun cdv A outer s H E hr => by
    unfold b_cover
    exact (ess_one (es_ret (ee_call W.d_cover_in (ok_cover_in W k (by omega)) hr rfl (at_of (takes_of rfl rfl rfl rfl)) (ea_cons (ee_call W.d_sure_pattern (ok_sure_pattern W k (by omega)) hr rfl (at_of (takes_of rfl rfl rfl rfl)) (ea_cons (ee_var (i := 0) rfl (by first | exact .inl rfl | exact .inr (.inl rfl) | exact .inr (.inr rfl)) (by decide) (by decide)) ea_nil rfl)) ea_nil rfl))))
theorem sc_is_set_below : FnScope ["thing", "many", "one", "other", "own"] ["thing", "many"] (defScope s_is_set_below) := ⟨rfl, rfl, rfl, by decide +kernel, rfl, by decide +kernel, by decide +kernel⟩
def b_is_set_below : FS := fSeq (fIfS (tOrA (tNotA (tOfE (fCall cIsi (fCons (fVar 0) (fCons (fCon (.ty .tuple)) (fNil)))))) (tNotA (tOfE (fCallL lAll (fLcX (iSeqD (fVar 0)) (.nm 4) (fYes) (fCallU 2 (f_is_below) (fCons (fVar 4) (fCons (fVar 1) (fNil)))) [4] 3000))))) (fRet (fCon (.bl false))) (fNext)) (fRet (fCallL lAll (fLc (iZipA2 (fCons (fVar 0) (fCons (fSl (fVar 0) (oSome (fCon (.int 1))) (oNone)) (fNil)))) (.tp [.nm 2, .nm 3]) (fYes) (eOfT (t2 (cInt fun i j => decide (i < j)) (fVar 2) (fVar 3))) [2, 3] 3000)))
def f_is_set_below : GL := runF 5 b_is_set_below
theorem ok_is_set_below {P : Program} {K : PySem.W.Frag} {mg : Str → Option Value} {base : Heap} {g : Ev.Gl} (W : Wd K mg g) : ∀ k, 3 ≤ k → FnOk P g.w K mg base (L2.CX P g.w) k (g.fa 5) (g.fd 5) ["thing", "many"] (spA g 2 f_is_set_below)
  | 0, h => absurd h (by decide)
  | k + 1, h => ok_fn (N := ["thing", "many", "one", "other", "own"]) (ps := ["thing", "many"]) (body := b_is_set_below) W.d_is_set_below.F sc_is_set_below fun cdv A outer s H E hr => by
    unfold b_is_set_below
    exact (ess_cons (es_if (PW.pt (ew_or (et_not (et_truth (ee_callB cr_isi co_isi rfl W.n_isinstance boot_isinstance (ea_cons (ee_var (i := 0) rfl (by first | exact .inl rfl | exact .inr (.inl rfl) | exact .inr (.inr rfl)) (by decide) (by decide)) (ea_cons (ee_ty .tuple rfl W.n_tuple boot_tuple) ea_nil rfl) rfl)) (fun _ => rfl))) (ew_or1 (et_not (et_truth (ee_callBL (cr_all rfl) lo_all rfl W.n_all boot_all (el_lcX (own := [("own", 4)]) (t := .nm 4) 3000 rfl sc_is_set_below.nd (pas_of (takes_of rfl rfl rfl rfl) rfl rfl) (ei_seqd rfl (ee_var (i := 0) rfl (by first | exact .inl rfl | exact .inr (.inl rfl) | exact .inr (.inr rfl)) (by decide) (by decide))) (blkOk_by (by kernel_rfl)) (by decide) (fun s H C cl fp xe E pb => ⟨(eg_nm (i := 4) sc_is_set_below.nd rfl (by first | exact .inl rfl | exact .inr rfl) (by first | exact .inl rfl | exact .inr rfl)), et_yes, (ee_call W.d_is_below (ok_is_below W k (by omega)) hr rfl pb.call (ea_cons (ee_var (i := 4) rfl (by first | exact .inl rfl | exact .inr (.inl rfl) | exact .inr (.inr rfl)) (by decide) (by decide)) (ea_cons (ee_var (i := 1) rfl (by first | exact .inl rfl | exact .inr (.inl rfl) | exact .inr (.inr rfl)) (by decide) (by decide)) ea_nil rfl) rfl))⟩)) rfl) (fun _ => rfl)))))) (ess_one (es_ret ee_bl)) ess_nil) (ess_one (es_ret (ee_callBL (cr_all rfl) lo_all rfl W.n_all boot_all (el_lc (own := [("one", 2), ("other", 3)]) (t := .tp [.nm 2, .nm 3]) 3000 rfl sc_is_set_below.nd (ei_zip rfl W.n_zip (ea_cons (ee_var (i := 0) rfl (by first | exact .inl rfl | exact .inr (.inl rfl) | exact .inr (.inr rfl)) (by decide) (by decide)) (ea_cons (ee_sl (ee_var (i := 0) rfl (by first | exact .inl rfl | exact .inr (.inl rfl) | exact .inr (.inr rfl)) (by decide) (by decide)) (eo_some ee_int) eo_none) ea_nil rfl) rfl)) (blkOk_by (by kernel_rfl)) (by decide) (fun s H C cl fp => ⟨(eg_tup rfl (eg_cons (eg_nm (i := 2) sc_is_set_below.nd rfl (by first | exact .inl rfl | exact .inr rfl) (by first | exact .inl rfl | exact .inr rfl)) (eg_cons (eg_nm (i := 3) sc_is_set_below.nd rfl (by first | exact .inl rfl | exact .inr rfl) (by first | exact .inl rfl | exact .inr rfl)) eg_nil))), et_yes, (ee_cmp op_lt co_int (ee_var (i := 2) rfl (by first | exact .inl rfl | exact .inr (.inl rfl) | exact .inr (.inr rfl)) (by decide) (by decide)) (ee_var (i := 3) rfl (by first | exact .inl rfl | exact .inr (.inl rfl) | exact .inr (.inr rfl)) (by decide) (by decide)) rfl)⟩)) rfl))))
theorem sc_places_in : FnScope ["pattern", "marks", "found", "number", "row", "column", "mark"] ["pattern", "marks"] (defScope s_places_in) := ⟨rfl, rfl, rfl, by decide +kernel, rfl, by decide +kernel, by decide +kernel⟩
def b_places_in : FS := fSeq (fSet 2 (fLst (fNil))) (fSeq (fFor (iEnumA (fCons (f2 gIxD (fVar 0) (fCon (.int 1))) (fNil))) (.tp [.nm 3, .nm 4]) (fDrop (fMet mExtendA (fVar 2) (fCons (eOfL (fLc (iEnumA (fCons (fVar 4) (fNil))) (.tp [.nm 5, .nm 6]) (t2 (cInE false) (fVar 6) (fVar 1)) (fTup (fCons (fVar 3) (fCons (fVar 5) (fNil)))) [5, 6] 3000)) (fNil)))) 3000) (fRet (fCall (byRef lTup cTup) (fCons (fVar 2) (fNil)))))
def f_places_in : GL := runF 7 b_places_in
theorem ok_places_in {P : Program} {K : PySem.W.Frag} {mg : Str → Option Value} {base : Heap} {g : Ev.Gl} (W : Wd K mg g) : ∀ k, 1 ≤ k → FnOk P g.w K mg base (L2.CX P g.w) k (g.fa 15) (g.fd 15) ["pattern", "marks"] (spA g 2 f_places_in)
  | 0, h => absurd h (by decide)
  | k + 1, h => ok_fn (N := ["pattern", "marks", "found", "number", "row", "column", "mark"]) (ps := ["pattern", "marks"]) (body := b_places_in) W.d_places_in.F sc_places_in fun cdv A outer s H E hr => by
    unfold b_places_in
    exact (ess_cons (es_set (i := 2) sc_places_in.nd rfl (by first | exact .inl rfl | exact .inr rfl) (ee_lst ea_nil) rfl (by first | exact .inl rfl | exact .inr rfl)) (ess_cons (es_for 3000 (passes_of rfl) rfl (ei_enum rfl W.n_enumerate (ea_cons (ee_ixd rfl (room_d hr) (ee_var (i := 0) rfl (by first | exact .inl rfl | exact .inr (.inl rfl) | exact .inr (.inr rfl)) (by decide) (by decide)) ee_int (fun _ _ => rfl)) ea_nil rfl)) (eg_tup rfl (eg_cons (eg_nm (i := 3) sc_places_in.nd rfl (by first | exact .inl rfl | exact .inr rfl) (by first | exact .inl rfl | exact .inr rfl)) (eg_cons (eg_nm (i := 4) sc_places_in.nd rfl (by first | exact .inl rfl | exact .inr rfl) (by first | exact .inl rfl | exact .inr rfl)) eg_nil))) (ess_one (es_expr (ee_met PySem.F.slot_list_extend PySem.F.type_list_extend (MtR.or mt_extend mt_extendT) mo_extendA (ee_var (i := 2) rfl (by first | exact .inl rfl | exact .inr (.inl rfl) | exact .inr (.inr rfl)) (by decide) (by decide)) (ea_cons (ee_L (el_lc (own := [("column", 5), ("mark", 6)]) (t := .tp [.nm 5, .nm 6]) 3000 rfl sc_places_in.nd (ei_enum rfl W.n_enumerate (ea_cons (ee_var (i := 4) rfl (by first | exact .inl rfl | exact .inr (.inl rfl) | exact .inr (.inr rfl)) (by decide) (by decide)) ea_nil rfl)) (blkOk_by (by kernel_rfl)) (by decide) (fun s H C cl fp => ⟨(eg_tup rfl (eg_cons (eg_nm (i := 5) sc_places_in.nd rfl (by first | exact .inl rfl | exact .inr rfl) (by first | exact .inl rfl | exact .inr rfl)) (eg_cons (eg_nm (i := 6) sc_places_in.nd rfl (by first | exact .inl rfl | exact .inr rfl) (by first | exact .inl rfl | exact .inr rfl)) eg_nil))), (et_one (et_cmp (or_inE (room_in hr)) (co_inT rfl) (ee_var (i := 6) rfl (by first | exact .inl rfl | exact .inr (.inl rfl) | exact .inr (.inr rfl)) (by decide) (by decide)) (ee_var (i := 1) rfl (by first | exact .inl rfl | exact .inr (.inl rfl) | exact .inr (.inr rfl)) (by decide) (by decide)) rfl)), (ee_tup (ea_cons (ee_var (i := 3) rfl (by first | exact .inl rfl | exact .inr (.inl rfl) | exact .inr (.inr rfl)) (by decide) (by decide)) (ea_cons (ee_var (i := 5) rfl (by first | exact .inl rfl | exact .inr (.inl rfl) | exact .inr (.inr rfl)) (by decide) (by decide)) ea_nil rfl) rfl))⟩))) ea_nil rfl))))) (ess_one (es_ret (ee_callTy cr_tup co_tup rfl W.n_tuple boot_tuple (ea_cons (ee_var (i := 2) rfl (by first | exact .inl rfl | exact .inr (.inl rfl) | exact .inr (.inr rfl)) (by decide) (by decide)) ea_nil rfl))))))
theorem sc_is_cover_in : FnScope ["pattern", "thing", "row", "column"] ["pattern", "thing"] (defScope s_is_cover_in) := ⟨rfl, rfl, rfl, by decide +kernel, rfl, by decide +kernel, by decide +kernel⟩
def b_is_cover_in : FS := fSeq (fIfS (tNotA (tOfE (fCallU 2 (f_is_tuple_of) (fCons (fVar 1) (fCons (fCon (.int 2)) (fNil)))))) (fRet (fCon (.bl false))) (fNext)) (fSeq (fIfS (tOrA (tNotA (tOfE (fCallU 2 (f_is_set_below) (fCons (f2 gIxD (fVar 1) (fCon (.int 0))) (fCons (fCall cLenD (fCons (f2 gIxD (fVar 0) (fCon (.int 1))) (fNil))) (fNil)))))) (tNotA (tOfE (fCallU 2 (f_is_set_below) (fCons (f2 gIxD (fVar 1) (fCon (.int 1))) (fCons (f2 gIxD (fVar 0) (fCon (.int 0))) (fNil))))))) (fRet (fCon (.bl false))) (fNext)) (fRet (fCallL lAll (fLc (iSeqD (fCallU 2 (f_places_in) (fCons (fVar 0) (fCons (fTup (fCons (fCon (.int 1)) (fCons (fCon (.int 2)) (fNil)))) (fNil))))) (.tp [.nm 2, .nm 3]) (fYes) (fOr (eOfT (t2 (cInE false) (fVar 2) (f2 gIxD (fVar 1) (fCon (.int 0))))) (eOfT (t2 (cInE false) (fVar 3) (f2 gIxD (fVar 1) (fCon (.int 1)))))) [2, 3] 3000))))
def f_is_cover_in : GL := runF 4 b_is_cover_in
theorem ok_is_cover_in {P : Program} {K : PySem.W.Frag} {mg : Str → Option Value} {base : Heap} {g : Ev.Gl} (W : Wd K mg g) : ∀ k, 4 ≤ k → FnOk P g.w K mg base (L2.CX P g.w) k (g.fa 34) (g.fd 34) ["pattern", "thing"] (spA g 2 f_is_cover_in)
  | 0, h => absurd h (by decide)
  | k + 1, h => ok_fn (N := ["pattern", "thing", "row", "column"]) (ps := ["pattern", "thing"]) (body := b_is_cover_in) W.d_is_cover_in.F sc_is_cover_in fun cdv A outer s H E hr => by
    unfold b_is_cover_in
    exact (ess_cons (es_if (et_not (et_truth (ee_call W.d_is_tuple_of (ok_is_tuple_of W k (by omega)) hr rfl (at_of (takes_of rfl rfl rfl rfl)) (ea_cons (ee_var (i := 1) rfl (by first | exact .inl rfl | exact .inr (.inl rfl) | exact .inr (.inr rfl)) (by decide) (by decide)) (ea_cons (ee_gint rfl W.c_PAIR) ea_nil rfl) rfl)) (fun _ => rfl))) (ess_one (es_ret ee_bl)) ess_nil) (ess_cons (es_if (PW.pt (ew_or (et_not (et_truth (ee_call W.d_is_set_below (ok_is_set_below W k (by omega)) hr rfl (at_of (takes_of rfl rfl rfl rfl)) (ea_cons (ee_ixd rfl (room_d hr) (ee_var (i := 1) rfl (by first | exact .inl rfl | exact .inr (.inl rfl) | exact .inr (.inr rfl)) (by decide) (by decide)) ee_int (fun _ _ => rfl)) (ea_cons (ee_callB cr_lend (co_lend rfl) rfl W.n_len PySem.boot_len (ea_cons (ee_ixd rfl (room_d hr) (ee_var (i := 0) rfl (by first | exact .inl rfl | exact .inr (.inl rfl) | exact .inr (.inr rfl)) (by decide) (by decide)) ee_int (fun _ _ => rfl)) ea_nil rfl)) ea_nil rfl) rfl)) (fun _ => rfl))) (ew_or1 (et_not (et_truth (ee_call W.d_is_set_below (ok_is_set_below W k (by omega)) hr rfl (at_of (takes_of rfl rfl rfl rfl)) (ea_cons (ee_ixd rfl (room_d hr) (ee_var (i := 1) rfl (by first | exact .inl rfl | exact .inr (.inl rfl) | exact .inr (.inr rfl)) (by decide) (by decide)) ee_int (fun _ _ => rfl)) (ea_cons (ee_ixd rfl (room_d hr) (ee_var (i := 0) rfl (by first | exact .inl rfl | exact .inr (.inl rfl) | exact .inr (.inr rfl)) (by decide) (by decide)) ee_int (fun _ _ => rfl)) ea_nil rfl) rfl)) (fun _ => rfl)))))) (ess_one (es_ret ee_bl)) ess_nil) (ess_one (es_ret (ee_callBL (cr_all rfl) lo_all rfl W.n_all boot_all (el_lc (own := [("row", 2), ("column", 3)]) (t := .tp [.nm 2, .nm 3]) 3000 rfl sc_is_cover_in.nd (ei_seqd rfl (ee_call W.d_places_in (ok_places_in W k (by omega)) hr rfl (at_of (takes_of rfl rfl rfl rfl)) (ea_cons (ee_var (i := 0) rfl (by first | exact .inl rfl | exact .inr (.inl rfl) | exact .inr (.inr rfl)) (by decide) (by decide)) (ea_cons (ee_tup (ea_cons ee_int (ea_cons ee_int ea_nil rfl) rfl)) ea_nil rfl) rfl))) (blkOk_by (by kernel_rfl)) (by decide) (fun s H C cl fp => ⟨(eg_tup rfl (eg_cons (eg_nm (i := 2) sc_is_cover_in.nd rfl (by first | exact .inl rfl | exact .inr rfl) (by first | exact .inl rfl | exact .inr rfl)) (eg_cons (eg_nm (i := 3) sc_is_cover_in.nd rfl (by first | exact .inl rfl | exact .inr rfl) (by first | exact .inl rfl | exact .inr rfl)) eg_nil))), et_yes, (ee_or (ee_cmp (or_inE (room_in hr)) (co_inT rfl) (ee_var (i := 2) rfl (by first | exact .inl rfl | exact .inr (.inl rfl) | exact .inr (.inr rfl)) (by decide) (by decide)) (ee_ixd rfl (room_d hr) (ee_var (i := 1) rfl (by first | exact .inl rfl | exact .inr (.inl rfl) | exact .inr (.inr rfl)) (by decide) (by decide)) ee_int (fun _ _ => rfl)) rfl) (ee_one (ee_cmp (or_inE (room_in hr)) (co_inT rfl) (ee_var (i := 3) rfl (by first | exact .inl rfl | exact .inr (.inl rfl) | exact .inr (.inr rfl)) (by decide) (by decide)) (ee_ixd rfl (room_d hr) (ee_var (i := 1) rfl (by first | exact .inl rfl | exact .inr (.inl rfl) | exact .inr (.inr rfl)) (by decide) (by decide)) ee_int (fun _ _ => rfl)) rfl)))⟩)) rfl)))))
theorem sc_is_cover : FnScope ["pattern", "thing"] ["pattern", "thing"] (defScope s_is_cover) := ⟨rfl, rfl, rfl, by decide +kernel, rfl, by decide +kernel, by decide +kernel⟩
def b_is_cover : FS := fRet (fCallU 2 (f_is_cover_in) (fCons (fCallU 1 (f_sure_pattern) (fCons (fVar 0) (fNil))) (fCons (fVar 1) (fNil))))
def f_is_cover : GL := runF 2 b_is_cover
theorem ok_is_cover {P : Program} {K : PySem.W.Frag} {mg : Str → Option Value} {base : Heap} {g : Ev.Gl} (W : Wd K mg g) : ∀ k, 15 ≤ k → FnOk P g.w K mg base (L2.CX P g.w) k (g.fa 33) (g.fd 33) ["pattern", "thing"] (spA g 2 f_is_cover)
  | 0, h => absurd h (by decide)
  | k + 1, h => ok_fn (N := ["pattern", "thing"]) (ps := ["pattern", "thing"]) (body := b_is_cover) W.d_is_cover.F sc_is_cover fun cdv A outer s H E hr => by
    unfold b_is_cover
    exact (ess_one (es_ret (ee_call W.d_is_cover_in (ok_is_cover_in W k (by omega)) hr rfl (at_of (takes_of rfl rfl rfl rfl)) (ea_cons (ee_call W.d_sure_pattern (ok_sure_pattern W k (by omega)) hr rfl (at_of (takes_of rfl rfl rfl rfl)) (ea_cons (ee_var (i := 0) rfl (by first | exact .inl rfl | exact .inr (.inl rfl) | exact .inr (.inr rfl)) (by decide) (by decide)) ea_nil rfl)) (ea_cons (ee_var (i := 1) rfl (by first | exact .inl rfl | exact .inr (.inl rfl) | exact .inr (.inr rfl)) (by decide) (by decide)) ea_nil rfl) rfl))))
theorem sc_is_greatest : FnScope ["pattern", "thing", "own"] ["pattern", "thing"] (defScope s_is_greatest) := ⟨rfl, rfl, rfl, by decide +kernel, rfl, by decide +kernel, by decide +kernel⟩
def b_is_greatest : FS := fSeq (fSet 2 (fCallU 1 (f_sure_pattern) (fCons (fVar 0) (fNil)))) (fRet (fAnd (fCallU 2 (f_is_matching_in) (fCons (fVar 2) (fCons (fVar 1) (fNil)))) (eOfT (t2 (cEq false) (fCall cLenD (fCons (fVar 1) (fNil))) (fCallU 1 (f_rank_of) (fCons (fVar 2) (fNil)))))))
def f_is_greatest : GL := runF 3 b_is_greatest
theorem ok_is_greatest {P : Program} {K : PySem.W.Frag} {mg : Str → Option Value} {base : Heap} {g : Ev.Gl} (W : Wd K mg g) : ∀ k, 15 ≤ k → FnOk P g.w K mg base (L2.CX P g.w) k (g.fa 29) (g.fd 29) ["pattern", "thing"] (spA g 2 f_is_greatest)
  | 0, h => absurd h (by decide)
  | k + 1, h => ok_fn (N := ["pattern", "thing", "own"]) (ps := ["pattern", "thing"]) (body := b_is_greatest) W.d_is_greatest.F sc_is_greatest fun cdv A outer s H E hr => by
    unfold b_is_greatest
    exact (ess_cons (es_set (i := 2) sc_is_greatest.nd rfl (by first | exact .inl rfl | exact .inr rfl) (ee_call W.d_sure_pattern (ok_sure_pattern W k (by omega)) hr rfl (at_of (takes_of rfl rfl rfl rfl)) (ea_cons (ee_var (i := 0) rfl (by first | exact .inl rfl | exact .inr (.inl rfl) | exact .inr (.inr rfl)) (by decide) (by decide)) ea_nil rfl)) rfl (by first | exact .inl rfl | exact .inr rfl)) (ess_one (es_ret (ee_and (ee_call W.d_is_matching_in (ok_is_matching_in W k (by omega)) hr rfl (at_of (takes_of rfl rfl rfl rfl)) (ea_cons (ee_var (i := 2) rfl (by first | exact .inl rfl | exact .inr (.inl rfl) | exact .inr (.inr rfl)) (by decide) (by decide)) (ea_cons (ee_var (i := 1) rfl (by first | exact .inl rfl | exact .inr (.inl rfl) | exact .inr (.inr rfl)) (by decide) (by decide)) ea_nil rfl) rfl)) (ee_one (ee_cmp (op_eqD (room_eq hr)) co_eq (ee_callB cr_lend (co_lend rfl) rfl W.n_len PySem.boot_len (ea_cons (ee_var (i := 1) rfl (by first | exact .inl rfl | exact .inr (.inl rfl) | exact .inr (.inr rfl)) (by decide) (by decide)) ea_nil rfl)) (ee_call W.d_rank_of (ok_rank_of W k (by omega)) hr rfl (at_of (takes_of rfl rfl rfl rfl)) (ea_cons (ee_var (i := 2) rfl (by first | exact .inl rfl | exact .inr (.inl rfl) | exact .inr (.inr rfl)) (by decide) (by decide)) ea_nil rfl)) rfl))))))
theorem sc_is_longer_way : FnScope ["pattern", "told", "thing", "own", "pairs", "rows", "columns", "row", "_", "column", "pair"] ["pattern", "told", "thing"] (defScope s_is_longer_way) := ⟨rfl, rfl, rfl, by decide +kernel, rfl, by decide +kernel, by decide +kernel⟩
def b_is_longer_way : FS := fSeq (fAsg (.tp [.nm 3, .nm 4]) (fTup (fCons (fCallU 1 (f_sure_pattern) (fCons (fVar 0) (fNil))) (fCons (fCallU 1 (f_tupled 12) (fCons (fVar 1) (fNil))) (fNil))))) (fSeq (fIfS (tNotA (tOfE (fCallU 2 (f_is_matching_in) (fCons (fVar 3) (fCons (fVar 4) (fNil)))))) (fRaise 1) (fNext)) (fSeq (fIfS (tOrA (tNotA (tOfE (fCall cIsi (fCons (fVar 2) (fCons (fCon (.ty .tuple)) (fNil)))))) (tOrA (t2 (cEq false) (fCall cLenD (fCons (fVar 2) (fNil))) (fCon (.int 0))) (t2 (cEq false) (f2 gMod (fCall cLenD (fCons (fVar 2) (fNil))) (fCon (.int 2))) (fCon (.int 1))))) (fRet (fCon (.bl false))) (fNext)) (fSeq (fPar 5 6 (fCons (fStep (fVar 2) (oNone) 2) (fCons (fStep (fVar 2) (oSome (fCon (.int 1))) 2) (fNil)))) (fSeq (fIfS (tOrA (tNotA (tOfE (fCallL lAll (fLcX (iZipA2 (fCons (fVar 5) (fCons (fVar 6) (fNil)))) (.nm 10) (fYes) (fCallU 2 (f_is_place) (fCons (fVar 3) (fCons (fVar 10) (fNil)))) [10] 3000)))) (t2 (cInt fun i j => decide (i < j)) (fCall (ofSq lsetL) (fCons (fVar 5) (fNil))) (fCall cLenD (fCons (fVar 5) (fNil))))) (fRet (fCon (.bl false))) (fNext)) (fSeq (fIfS (tOrA (t2 (cInt fun i j => decide (i < j)) (fCall (ofSq lsetL) (fCons (fVar 6) (fNil))) (fCall cLenD (fCons (fVar 6) (fNil)))) (tNotA (tOfE (fCallL lAll (fLc (iZipA2 (fCons (fSl (fVar 5) (oSome (fCon (.int 1))) (oNone)) (fCons (fVar 6) (fNil)))) (.nm 10) (fYes) (eOfT (t2 (cInE false) (fVar 10) (fVar 4))) [10] 3000))))) (fRet (fCon (.bl false))) (fNext)) (fRet (fAnd (eOfT (t2 (cInE true) (f2 gIxD (fVar 5) (fCon (.int 0))) (eOfL (fLc (iSeqD (fVar 4)) (.tp [.nm 7, .nm 8]) (fYes) (fVar 7) [7, 8] 3000)))) (eOfT (t2 (cInE true) (f2 gIxD (fVar 6) (fNeg (fCon (.int 1)))) (eOfL (fLc (iSeqD (fVar 4)) (.tp [.nm 8, .nm 9]) (fYes) (fVar 9) [8, 9] 3000)))))))))))
def f_is_longer_way : GL := runF 11 b_is_longer_way
theorem ok_is_longer_way {P : Program} {K : PySem.W.Frag} {mg : Str → Option Value} {base : Heap} {g : Ev.Gl} (W : Wd K mg g) : ∀ k, 15 ≤ k → FnOk P g.w K mg base (L2.CX P g.w) k (g.fa 36) (g.fd 36) ["pattern", "told", "thing"] (spA g 3 f_is_longer_way)
  | 0, h => absurd h (by decide)
  | k + 1, h => ok_fn (N := ["pattern", "told", "thing", "own", "pairs", "rows", "columns", "row", "_", "column", "pair"]) (ps := ["pattern", "told", "thing"]) (body := b_is_longer_way) W.d_is_longer_way.F sc_is_longer_way fun cdv A outer s H E hr => by
    unfold b_is_longer_way
    exact (ess_cons (es_asg (ee_tup (ea_cons (ee_call W.d_sure_pattern (ok_sure_pattern W k (by omega)) hr rfl (at_of (takes_of rfl rfl rfl rfl)) (ea_cons (ee_var (i := 0) rfl (by first | exact .inl rfl | exact .inr (.inl rfl) | exact .inr (.inr rfl)) (by decide) (by decide)) ea_nil rfl)) (ea_cons (ee_call W.d_tupled (ok_tupled W 12 k (by omega)) hr rfl (at_of (takes_of rfl rfl rfl rfl)) (ea_cons (ee_var (i := 1) rfl (by first | exact .inl rfl | exact .inr (.inl rfl) | exact .inr (.inr rfl)) (by decide) (by decide)) ea_nil rfl)) ea_nil rfl) rfl)) (eg_tup rfl (eg_cons (eg_nm (i := 3) sc_is_longer_way.nd rfl (by first | exact .inl rfl | exact .inr rfl) (by first | exact .inl rfl | exact .inr rfl)) (eg_cons (eg_nm (i := 4) sc_is_longer_way.nd rfl (by first | exact .inl rfl | exact .inr rfl) (by first | exact .inl rfl | exact .inr rfl)) eg_nil)))) (ess_cons (es_if (et_not (et_truth (ee_call W.d_is_matching_in (ok_is_matching_in W k (by omega)) hr rfl (at_of (takes_of rfl rfl rfl rfl)) (ea_cons (ee_var (i := 3) rfl (by first | exact .inl rfl | exact .inr (.inl rfl) | exact .inr (.inr rfl)) (by decide) (by decide)) (ea_cons (ee_var (i := 4) rfl (by first | exact .inl rfl | exact .inr (.inl rfl) | exact .inr (.inr rfl)) (by decide) (by decide)) ea_nil rfl) rfl)) (fun _ => rfl))) (ess_one (es_raise PySem.F.excBase_ValueError W.e_Unfit rfl rfl (takes_of rfl rfl rfl rfl))) ess_nil) (ess_cons (es_if (PW.pt (ew_or (et_not (et_truth (ee_callB cr_isi co_isi rfl W.n_isinstance boot_isinstance (ea_cons (ee_var (i := 2) rfl (by first | exact .inl rfl | exact .inr (.inl rfl) | exact .inr (.inr rfl)) (by decide) (by decide)) (ea_cons (ee_ty .tuple rfl W.n_tuple boot_tuple) ea_nil rfl) rfl)) (fun _ => rfl))) (ew_or (et_cmp (op_eqD (room_eq hr)) co_eq (ee_callB cr_lend (co_lend rfl) rfl W.n_len PySem.boot_len (ea_cons (ee_var (i := 2) rfl (by first | exact .inl rfl | exact .inr (.inl rfl) | exact .inr (.inr rfl)) (by decide) (by decide)) ea_nil rfl)) ee_int rfl) (ew_or1 (et_cmp (op_eqD (room_eq hr)) co_eq (ee_op op_mod bo_mod (ee_callB cr_lend (co_lend rfl) rfl W.n_len PySem.boot_len (ea_cons (ee_var (i := 2) rfl (by first | exact .inl rfl | exact .inr (.inl rfl) | exact .inr (.inr rfl)) (by decide) (by decide)) ea_nil rfl)) ee_int) ee_int rfl))))) (ess_one (es_ret ee_bl)) ess_nil) (ess_cons (es_par (i := 5) (j := 6) rfl sc_is_longer_way.nd rfl rfl (by decide) rfl rfl (ea_cons (ee_step (ee_var (i := 2) rfl (by first | exact .inl rfl | exact .inr (.inl rfl) | exact .inr (.inr rfl)) (by decide) (by decide)) eo_none po_int) (ea_cons (ee_step (ee_var (i := 2) rfl (by first | exact .inl rfl | exact .inr (.inl rfl) | exact .inr (.inr rfl)) (by decide) (by decide)) (eo_some ee_int) po_int) ea_nil rfl) rfl) rfl) (ess_cons (es_if (PW.pt (ew_or (et_not (et_truth (ee_callBL (cr_all rfl) lo_all rfl W.n_all boot_all (el_lcX (own := [("pair", 10)]) (t := .nm 10) 3000 rfl sc_is_longer_way.nd (pas_of (takes_of rfl rfl rfl rfl) rfl rfl) (ei_zipN (fun _ _ => rfl) rfl W.n_zip (ea_cons (ee_var (i := 5) rfl (by first | exact .inl rfl | exact .inr (.inl rfl) | exact .inr (.inr rfl)) (by decide) (by decide)) (ea_cons (ee_var (i := 6) rfl (by first | exact .inl rfl | exact .inr (.inl rfl) | exact .inr (.inr rfl)) (by decide) (by decide)) ea_nil rfl) rfl)) (blkOk_by (by kernel_rfl)) (by decide) (fun s H C cl fp xe E pb => ⟨(eg_nm (i := 10) sc_is_longer_way.nd rfl (by first | exact .inl rfl | exact .inr rfl) (by first | exact .inl rfl | exact .inr rfl)), et_yes, (ee_call W.d_is_place (ok_is_place W k (by omega)) hr rfl pb.call (ea_cons (ee_var (i := 3) rfl (by first | exact .inl rfl | exact .inr (.inl rfl) | exact .inr (.inr rfl)) (by decide) (by decide)) (ea_cons (ee_var (i := 10) rfl (by first | exact .inl rfl | exact .inr (.inl rfl) | exact .inr (.inr rfl)) (by decide) (by decide)) ea_nil rfl) rfl))⟩)) rfl) (fun _ => rfl))) (ew_or1 (et_cmp op_lt co_int (ee_ls rfl (room_ss hr) rfl W.n_len rfl W.n_set (ea_cons (ee_var (i := 5) rfl (by first | exact .inl rfl | exact .inr (.inl rfl) | exact .inr (.inr rfl)) (by decide) (by decide)) ea_nil rfl)) (ee_callB cr_lend (co_lend rfl) rfl W.n_len PySem.boot_len (ea_cons (ee_var (i := 5) rfl (by first | exact .inl rfl | exact .inr (.inl rfl) | exact .inr (.inr rfl)) (by decide) (by decide)) ea_nil rfl)) rfl)))) (ess_one (es_ret ee_bl)) ess_nil) (ess_cons (es_if (PW.pt (ew_or (et_cmp op_lt co_int (ee_ls rfl (room_ss hr) rfl W.n_len rfl W.n_set (ea_cons (ee_var (i := 6) rfl (by first | exact .inl rfl | exact .inr (.inl rfl) | exact .inr (.inr rfl)) (by decide) (by decide)) ea_nil rfl)) (ee_callB cr_lend (co_lend rfl) rfl W.n_len PySem.boot_len (ea_cons (ee_var (i := 6) rfl (by first | exact .inl rfl | exact .inr (.inl rfl) | exact .inr (.inr rfl)) (by decide) (by decide)) ea_nil rfl)) rfl) (ew_or1 (et_not (et_truth (ee_callBL (cr_all rfl) lo_all rfl W.n_all boot_all (el_lc (own := [("pair", 10)]) (t := .nm 10) 3000 rfl sc_is_longer_way.nd (ei_zipN (fun _ _ => rfl) rfl W.n_zip (ea_cons (ee_sl (ee_var (i := 5) rfl (by first | exact .inl rfl | exact .inr (.inl rfl) | exact .inr (.inr rfl)) (by decide) (by decide)) (eo_some ee_int) eo_none) (ea_cons (ee_var (i := 6) rfl (by first | exact .inl rfl | exact .inr (.inl rfl) | exact .inr (.inr rfl)) (by decide) (by decide)) ea_nil rfl) rfl)) (blkOk_by (by kernel_rfl)) (by decide) (fun s H C cl fp => ⟨(eg_nm (i := 10) sc_is_longer_way.nd rfl (by first | exact .inl rfl | exact .inr rfl) (by first | exact .inl rfl | exact .inr rfl)), et_yes, (ee_cmp (or_inE (room_in hr)) (co_inT rfl) (ee_var (i := 10) rfl (by first | exact .inl rfl | exact .inr (.inl rfl) | exact .inr (.inr rfl)) (by decide) (by decide)) (ee_var (i := 4) rfl (by first | exact .inl rfl | exact .inr (.inl rfl) | exact .inr (.inr rfl)) (by decide) (by decide)) rfl)⟩)) rfl) (fun _ => rfl)))))) (ess_one (es_ret ee_bl)) ess_nil) (ess_one (es_ret (ee_and (ee_cmp (or_notinE (room_in hr)) (co_notinT rfl) (ee_ixd rfl (room_d hr) (ee_var (i := 5) rfl (by first | exact .inl rfl | exact .inr (.inl rfl) | exact .inr (.inr rfl)) (by decide) (by decide)) ee_int (fun _ _ => rfl)) (ee_L (el_lc (own := [("row", 7), ("_", 8)]) (t := .tp [.nm 7, .nm 8]) 3000 rfl sc_is_longer_way.nd (ei_seqd rfl (ee_var (i := 4) rfl (by first | exact .inl rfl | exact .inr (.inl rfl) | exact .inr (.inr rfl)) (by decide) (by decide))) (blkOk_by (by kernel_rfl)) (by decide) (fun s H C cl fp => ⟨(eg_tup rfl (eg_cons (eg_nm (i := 7) sc_is_longer_way.nd rfl (by first | exact .inl rfl | exact .inr rfl) (by first | exact .inl rfl | exact .inr rfl)) (eg_cons (eg_nm (i := 8) sc_is_longer_way.nd rfl (by first | exact .inl rfl | exact .inr rfl) (by first | exact .inl rfl | exact .inr rfl)) eg_nil))), et_yes, (ee_var (i := 7) rfl (by first | exact .inl rfl | exact .inr (.inl rfl) | exact .inr (.inr rfl)) (by decide) (by decide))⟩))) rfl) (ee_one (ee_cmp (or_notinE (room_in hr)) (co_notinT rfl) (ee_ixd rfl (room_d hr) (ee_var (i := 6) rfl (by first | exact .inl rfl | exact .inr (.inl rfl) | exact .inr (.inr rfl)) (by decide) (by decide)) (ee_neg ee_int) (fun _ _ => rfl)) (ee_L (el_lc (own := [("_", 8), ("column", 9)]) (t := .tp [.nm 8, .nm 9]) 3000 rfl sc_is_longer_way.nd (ei_seqd rfl (ee_var (i := 4) rfl (by first | exact .inl rfl | exact .inr (.inl rfl) | exact .inr (.inr rfl)) (by decide) (by decide))) (blkOk_by (by kernel_rfl)) (by decide) (fun s H C cl fp => ⟨(eg_tup rfl (eg_cons (eg_nm (i := 8) sc_is_longer_way.nd rfl (by first | exact .inl rfl | exact .inr rfl) (by first | exact .inl rfl | exact .inr rfl)) (eg_cons (eg_nm (i := 9) sc_is_longer_way.nd rfl (by first | exact .inl rfl | exact .inr rfl) (by first | exact .inl rfl | exact .inr rfl)) eg_nil))), et_yes, (ee_var (i := 9) rfl (by first | exact .inl rfl | exact .inr (.inl rfl) | exact .inr (.inr rfl)) (by decide) (by decide))⟩))) rfl)))))))))))
theorem sc_is_matching : FnScope ["pattern", "thing"] ["pattern", "thing"] (defScope s_is_matching) := ⟨rfl, rfl, rfl, by decide +kernel, rfl, by decide +kernel, by decide +kernel⟩
def b_is_matching : FS := fRet (fCallU 2 (f_is_matching_in) (fCons (fCallU 1 (f_sure_pattern) (fCons (fVar 0) (fNil))) (fCons (fVar 1) (fNil))))
def f_is_matching : GL := runF 2 b_is_matching
theorem ok_is_matching {P : Program} {K : PySem.W.Frag} {mg : Str → Option Value} {base : Heap} {g : Ev.Gl} (W : Wd K mg g) : ∀ k, 15 ≤ k → FnOk P g.w K mg base (L2.CX P g.w) k (g.fa 26) (g.fd 26) ["pattern", "thing"] (spA g 2 f_is_matching)
  | 0, h => absurd h (by decide)
  | k + 1, h => ok_fn (N := ["pattern", "thing"]) (ps := ["pattern", "thing"]) (body := b_is_matching) W.d_is_matching.F sc_is_matching fun cdv A outer s H E hr => by
    unfold b_is_matching
    exact (ess_one (es_ret (ee_call W.d_is_matching_in (ok_is_matching_in W k (by omega)) hr rfl (at_of (takes_of rfl rfl rfl rfl)) (ea_cons (ee_call W.d_sure_pattern (ok_sure_pattern W k (by omega)) hr rfl (at_of (takes_of rfl rfl rfl rfl)) (ea_cons (ee_var (i := 0) rfl (by first | exact .inl rfl | exact .inr (.inl rfl) | exact .inr (.inr rfl)) (by decide) (by decide)) ea_nil rfl)) (ea_cons (ee_var (i := 1) rfl (by first | exact .inl rfl | exact .inr (.inl rfl) | exact .inr (.inr rfl)) (by decide) (by decide)) ea_nil rfl) rfl))))
theorem sc_sure_set : FnScope ["thing", "many", "own"] ["thing", "many"] (defScope s_sure_set) := ⟨rfl, rfl, rfl, by decide +kernel, rfl, by decide +kernel, by decide +kernel⟩
def b_sure_set : FS := fSeq (fSet 2 (fCallU 1 (f_tupled 12) (fCons (fVar 0) (fNil)))) (fSeq (fIfS (tNotA (tOfE (fCallU 2 (f_is_set_below) (fCons (fVar 2) (fCons (fVar 1) (fNil)))))) (fRaise 1) (fNext)) (fRet (fVar 2)))
def f_sure_set : GL := runF 3 b_sure_set
theorem ok_sure_set {P : Program} {K : PySem.W.Frag} {mg : Str → Option Value} {base : Heap} {g : Ev.Gl} (W : Wd K mg g) : ∀ k, 14 ≤ k → FnOk P g.w K mg base (L2.CX P g.w) k (g.fa 7) (g.fd 7) ["thing", "many"] (spA g 2 f_sure_set)
  | 0, h => absurd h (by decide)
  | k + 1, h => ok_fn (N := ["thing", "many", "own"]) (ps := ["thing", "many"]) (body := b_sure_set) W.d_sure_set.F sc_sure_set fun cdv A outer s H E hr => by
    unfold b_sure_set
    exact (ess_cons (es_set (i := 2) sc_sure_set.nd rfl (by first | exact .inl rfl | exact .inr rfl) (ee_call W.d_tupled (ok_tupled W 12 k (by omega)) hr rfl (at_of (takes_of rfl rfl rfl rfl)) (ea_cons (ee_var (i := 0) rfl (by first | exact .inl rfl | exact .inr (.inl rfl) | exact .inr (.inr rfl)) (by decide) (by decide)) ea_nil rfl)) rfl (by first | exact .inl rfl | exact .inr rfl)) (ess_cons (es_if (et_not (et_truth (ee_call W.d_is_set_below (ok_is_set_below W k (by omega)) hr rfl (at_of (takes_of rfl rfl rfl rfl)) (ea_cons (ee_var (i := 2) rfl (by first | exact .inl rfl | exact .inr (.inl rfl) | exact .inr (.inr rfl)) (by decide) (by decide)) (ea_cons (ee_var (i := 1) rfl (by first | exact .inl rfl | exact .inr (.inl rfl) | exact .inr (.inr rfl)) (by decide) (by decide)) ea_nil rfl) rfl)) (fun _ => rfl))) (ess_one (es_raise PySem.F.excBase_ValueError W.e_Unfit rfl rfl (takes_of rfl rfl rfl rfl))) ess_nil) (ess_one (es_ret (ee_var (i := 2) rfl (by first | exact .inl rfl | exact .inr (.inl rfl) | exact .inr (.inr rfl)) (by decide) (by decide))))))
theorem sc_is_narrow : FnScope ["pattern", "rows", "own"] ["pattern", "rows"] (defScope s_is_narrow) := ⟨rfl, rfl, rfl, by decide +kernel, rfl, by decide +kernel, by decide +kernel⟩
def b_is_narrow : FS := fSeq (fSet 2 (fCallU 1 (f_sure_pattern) (fCons (fVar 0) (fNil)))) (fRet (fCallU 2 (f_is_narrow_in) (fCons (fCallU 1 (f_adjoined) (fCons (fVar 2) (fNil))) (fCons (fCallU 2 (f_sure_set) (fCons (fVar 1) (fCons (fCall cLenD (fCons (f2 gIxD (fVar 2) (fCon (.int 1))) (fNil))) (fNil)))) (fNil)))))
def f_is_narrow : GL := runF 3 b_is_narrow
theorem ok_is_narrow {P : Program} {K : PySem.W.Frag} {mg : Str → Option Value} {base : Heap} {g : Ev.Gl} (W : Wd K mg g) : ∀ k, 15 ≤ k → FnOk P g.w K mg base (L2.CX P g.w) k (g.fa 38) (g.fd 38) ["pattern", "rows"] (spA g 2 f_is_narrow)
  | 0, h => absurd h (by decide)
  | k + 1, h => ok_fn (N := ["pattern", "rows", "own"]) (ps := ["pattern", "rows"]) (body := b_is_narrow) W.d_is_narrow.F sc_is_narrow fun cdv A outer s H E hr => by
    unfold b_is_narrow
    exact (ess_cons (es_set (i := 2) sc_is_narrow.nd rfl (by first | exact .inl rfl | exact .inr rfl) (ee_call W.d_sure_pattern (ok_sure_pattern W k (by omega)) hr rfl (at_of (takes_of rfl rfl rfl rfl)) (ea_cons (ee_var (i := 0) rfl (by first | exact .inl rfl | exact .inr (.inl rfl) | exact .inr (.inr rfl)) (by decide) (by decide)) ea_nil rfl)) rfl (by first | exact .inl rfl | exact .inr rfl)) (ess_one (es_ret (ee_call W.d_is_narrow_in (ok_is_narrow_in W k (by omega)) hr rfl (at_of (takes_of rfl rfl rfl rfl)) (ea_cons (ee_call W.d_adjoined (ok_adjoined W k (by omega)) hr rfl (at_of (takes_of rfl rfl rfl rfl)) (ea_cons (ee_var (i := 2) rfl (by first | exact .inl rfl | exact .inr (.inl rfl) | exact .inr (.inr rfl)) (by decide) (by decide)) ea_nil rfl)) (ea_cons (ee_call W.d_sure_set (ok_sure_set W k (by omega)) hr rfl (at_of (takes_of rfl rfl rfl rfl)) (ea_cons (ee_var (i := 1) rfl (by first | exact .inl rfl | exact .inr (.inl rfl) | exact .inr (.inr rfl)) (by decide) (by decide)) (ea_cons (ee_callB cr_lend (co_lend rfl) rfl W.n_len PySem.boot_len (ea_cons (ee_ixd rfl (room_d hr) (ee_var (i := 2) rfl (by first | exact .inl rfl | exact .inr (.inl rfl) | exact .inr (.inr rfl)) (by decide) (by decide)) ee_int (fun _ _ => rfl)) ea_nil rfl)) ea_nil rfl) rfl)) ea_nil rfl) rfl)))))
theorem sc_is_rank_paper : FnScope ["pattern", "thing", "own"] ["pattern", "thing"] (defScope s_is_rank_paper) := ⟨rfl, rfl, rfl, by decide +kernel, rfl, by decide +kernel, by decide +kernel⟩
def b_is_rank_paper : FS := fSeq (fSet 2 (fCallU 1 (f_sure_pattern) (fCons (fVar 0) (fNil)))) (fSeq (fIfS (tOrA (tNotA (tOfE (fCallU 2 (f_is_tuple_of) (fCons (fVar 1) (fCons (fCon (.int 2)) (fNil)))))) (tOrA (tNotA (tOfE (fCallU 2 (f_is_matching_in) (fCons (fVar 2) (fCons (f2 gIxD (fVar 1) (fCon (.int 0))) (fNil)))))) (tNotA (tOfE (fCallU 2 (f_is_cover_in) (fCons (fVar 2) (fCons (f2 gIxD (fVar 1) (fCon (.int 1))) (fNil)))))))) (fRet (fCon (.bl false))) (fNext)) (fRet (eOfT (t2 (cEq false) (fCall cLenD (fCons (f2 gIxD (fVar 1) (fCon (.int 0))) (fNil))) (f2 gAdd (fCall cLenD (fCons (f2 gIxD (f2 gIxD (fVar 1) (fCon (.int 1))) (fCon (.int 0))) (fNil))) (fCall cLenD (fCons (f2 gIxD (f2 gIxD (fVar 1) (fCon (.int 1))) (fCon (.int 1))) (fNil))))))))
def f_is_rank_paper : GL := runF 3 b_is_rank_paper
theorem ok_is_rank_paper {P : Program} {K : PySem.W.Frag} {mg : Str → Option Value} {base : Heap} {g : Ev.Gl} (W : Wd K mg g) : ∀ k, 15 ≤ k → FnOk P g.w K mg base (L2.CX P g.w) k (g.fa 24) (g.fd 24) ["pattern", "thing"] (spA g 2 f_is_rank_paper)
  | 0, h => absurd h (by decide)
  | k + 1, h => ok_fn (N := ["pattern", "thing", "own"]) (ps := ["pattern", "thing"]) (body := b_is_rank_paper) W.d_is_rank_paper.F sc_is_rank_paper fun cdv A outer s H E hr => by
    unfold b_is_rank_paper
    exact (ess_cons (es_set (i := 2) sc_is_rank_paper.nd rfl (by first | exact .inl rfl | exact .inr rfl) (ee_call W.d_sure_pattern (ok_sure_pattern W k (by omega)) hr rfl (at_of (takes_of rfl rfl rfl rfl)) (ea_cons (ee_var (i := 0) rfl (by first | exact .inl rfl | exact .inr (.inl rfl) | exact .inr (.inr rfl)) (by decide) (by decide)) ea_nil rfl)) rfl (by first | exact .inl rfl | exact .inr rfl)) (ess_cons (es_if (PW.pt (ew_or (et_not (et_truth (ee_call W.d_is_tuple_of (ok_is_tuple_of W k (by omega)) hr rfl (at_of (takes_of rfl rfl rfl rfl)) (ea_cons (ee_var (i := 1) rfl (by first | exact .inl rfl | exact .inr (.inl rfl) | exact .inr (.inr rfl)) (by decide) (by decide)) (ea_cons (ee_gint rfl W.c_PAIR) ea_nil rfl) rfl)) (fun _ => rfl))) (ew_or (et_not (et_truth (ee_call W.d_is_matching_in (ok_is_matching_in W k (by omega)) hr rfl (at_of (takes_of rfl rfl rfl rfl)) (ea_cons (ee_var (i := 2) rfl (by first | exact .inl rfl | exact .inr (.inl rfl) | exact .inr (.inr rfl)) (by decide) (by decide)) (ea_cons (ee_ixd rfl (room_d hr) (ee_var (i := 1) rfl (by first | exact .inl rfl | exact .inr (.inl rfl) | exact .inr (.inr rfl)) (by decide) (by decide)) ee_int (fun _ _ => rfl)) ea_nil rfl) rfl)) (fun _ => rfl))) (ew_or1 (et_not (et_truth (ee_call W.d_is_cover_in (ok_is_cover_in W k (by omega)) hr rfl (at_of (takes_of rfl rfl rfl rfl)) (ea_cons (ee_var (i := 2) rfl (by first | exact .inl rfl | exact .inr (.inl rfl) | exact .inr (.inr rfl)) (by decide) (by decide)) (ea_cons (ee_ixd rfl (room_d hr) (ee_var (i := 1) rfl (by first | exact .inl rfl | exact .inr (.inl rfl) | exact .inr (.inr rfl)) (by decide) (by decide)) ee_int (fun _ _ => rfl)) ea_nil rfl) rfl)) (fun _ => rfl))))))) (ess_one (es_ret ee_bl)) ess_nil) (ess_one (es_ret (ee_cmp (op_eqD (room_eq hr)) co_eq (ee_callB cr_lend (co_lend rfl) rfl W.n_len PySem.boot_len (ea_cons (ee_ixd rfl (room_d hr) (ee_var (i := 1) rfl (by first | exact .inl rfl | exact .inr (.inl rfl) | exact .inr (.inr rfl)) (by decide) (by decide)) ee_int (fun _ _ => rfl)) ea_nil rfl)) (ee_op or_add bo_add (ee_callB cr_lend (co_lend rfl) rfl W.n_len PySem.boot_len (ea_cons (ee_ixd rfl (room_d hr) (ee_ixd rfl (room_d hr) (ee_var (i := 1) rfl (by first | exact .inl rfl | exact .inr (.inl rfl) | exact .inr (.inr rfl)) (by decide) (by decide)) ee_int (fun _ _ => rfl)) ee_int (fun _ _ => rfl)) ea_nil rfl)) (ee_callB cr_lend (co_lend rfl) rfl W.n_len PySem.boot_len (ea_cons (ee_ixd rfl (room_d hr) (ee_ixd rfl (room_d hr) (ee_var (i := 1) rfl (by first | exact .inl rfl | exact .inr (.inl rfl) | exact .inr (.inr rfl)) (by decide) (by decide)) ee_int (fun _ _ => rfl)) ee_int (fun _ _ => rfl)) ea_nil rfl))) rfl)))))
theorem sc_is_of_in : FnScope ["table", "pattern", "row", "marks", "own", "mark"] ["table", "pattern"] (defScope s_is_of_in) := ⟨rfl, rfl, rfl, by decide +kernel, rfl, by decide +kernel, by decide +kernel⟩
def b_is_of_in : FS := fSeq (fIfS (tOrA (t2 (cEq true) (f2 gIxD (fVar 0) (fCon (.int 0))) (f2 gIxD (fVar 1) (fCon (.int 0)))) (t2 (cEq true) (fCall cLenD (fCons (f2 gIxD (fVar 0) (fCon (.int 1))) (fNil))) (fCall cLenD (fCons (f2 gIxD (fVar 1) (fCon (.int 1))) (fNil))))) (fRet (fCon (.bl false))) (fNext)) (fSeq (fFor (iZipA2 (fCons (f2 gIxD (fVar 0) (fCon (.int 1))) (fCons (f2 gIxD (fVar 1) (fCon (.int 1))) (fNil)))) (.tp [.nm 2, .nm 3]) (fIfS (tOfE (fCallL lAny (fLc (iZipA2 (fCons (fVar 2) (fCons (fVar 3) (fNil)))) (.tp [.nm 4, .nm 5]) (fYes) (fOr (fAnd (eOfT (t2 (cEq true) (fVar 4) (fCon (.int 0)))) (eOfT (t2 (cEq false) (fVar 5) (fCon (.int 0))))) (fAnd (eOfT (t2 (cEq false) (fVar 4) (fCon (.int 0)))) (eOfT (t2 (cEq false) (fVar 5) (fCon (.int 1)))))) [4, 5] 3000))) (fRet (fCon (.bl false))) (fNext)) 3000) (fRet (fCon (.bl true))))
def f_is_of_in : GL := runF 6 b_is_of_in
theorem ok_is_of_in {P : Program} {K : PySem.W.Frag} {mg : Str → Option Value} {base : Heap} {g : Ev.Gl} (W : Wd K mg g) : ∀ k, 1 ≤ k → FnOk P g.w K mg base (L2.CX P g.w) k (g.fa 13) (g.fd 13) ["table", "pattern"] (spA g 2 f_is_of_in)
  | 0, h => absurd h (by decide)
  | k + 1, h => ok_fn (N := ["table", "pattern", "row", "marks", "own", "mark"]) (ps := ["table", "pattern"]) (body := b_is_of_in) W.d_is_of_in.F sc_is_of_in fun cdv A outer s H E hr => by
    unfold b_is_of_in
    exact (ess_cons (es_if (PW.pt (ew_or (et_cmp (op_neD (room_eq hr)) co_ne (ee_ixd rfl (room_d hr) (ee_var (i := 0) rfl (by first | exact .inl rfl | exact .inr (.inl rfl) | exact .inr (.inr rfl)) (by decide) (by decide)) ee_int (fun _ _ => rfl)) (ee_ixd rfl (room_d hr) (ee_var (i := 1) rfl (by first | exact .inl rfl | exact .inr (.inl rfl) | exact .inr (.inr rfl)) (by decide) (by decide)) ee_int (fun _ _ => rfl)) rfl) (ew_or1 (et_cmp (op_neD (room_eq hr)) co_ne (ee_callB cr_lend (co_lend rfl) rfl W.n_len PySem.boot_len (ea_cons (ee_ixd rfl (room_d hr) (ee_var (i := 0) rfl (by first | exact .inl rfl | exact .inr (.inl rfl) | exact .inr (.inr rfl)) (by decide) (by decide)) ee_int (fun _ _ => rfl)) ea_nil rfl)) (ee_callB cr_lend (co_lend rfl) rfl W.n_len PySem.boot_len (ea_cons (ee_ixd rfl (room_d hr) (ee_var (i := 1) rfl (by first | exact .inl rfl | exact .inr (.inl rfl) | exact .inr (.inr rfl)) (by decide) (by decide)) ee_int (fun _ _ => rfl)) ea_nil rfl)) rfl)))) (ess_one (es_ret ee_bl)) ess_nil) (ess_cons (es_for 3000 (passes_of rfl) rfl (ei_zip rfl W.n_zip (ea_cons (ee_ixd rfl (room_d hr) (ee_var (i := 0) rfl (by first | exact .inl rfl | exact .inr (.inl rfl) | exact .inr (.inr rfl)) (by decide) (by decide)) ee_int (fun _ _ => rfl)) (ea_cons (ee_ixd rfl (room_d hr) (ee_var (i := 1) rfl (by first | exact .inl rfl | exact .inr (.inl rfl) | exact .inr (.inr rfl)) (by decide) (by decide)) ee_int (fun _ _ => rfl)) ea_nil rfl) rfl)) (eg_tup rfl (eg_cons (eg_nm (i := 2) sc_is_of_in.nd rfl (by first | exact .inl rfl | exact .inr rfl) (by first | exact .inl rfl | exact .inr rfl)) (eg_cons (eg_nm (i := 3) sc_is_of_in.nd rfl (by first | exact .inl rfl | exact .inr rfl) (by first | exact .inl rfl | exact .inr rfl)) eg_nil))) (ess_one (es_if (et_truth (ee_callBL (cr_any rfl) lo_any rfl W.n_any boot_any (el_lc (own := [("own", 4), ("mark", 5)]) (t := .tp [.nm 4, .nm 5]) 3000 rfl sc_is_of_in.nd (ei_zip rfl W.n_zip (ea_cons (ee_var (i := 2) rfl (by first | exact .inl rfl | exact .inr (.inl rfl) | exact .inr (.inr rfl)) (by decide) (by decide)) (ea_cons (ee_var (i := 3) rfl (by first | exact .inl rfl | exact .inr (.inl rfl) | exact .inr (.inr rfl)) (by decide) (by decide)) ea_nil rfl) rfl)) (blkOk_by (by kernel_rfl)) (by decide) (fun s H C cl fp => ⟨(eg_tup rfl (eg_cons (eg_nm (i := 4) sc_is_of_in.nd rfl (by first | exact .inl rfl | exact .inr rfl) (by first | exact .inl rfl | exact .inr rfl)) (eg_cons (eg_nm (i := 5) sc_is_of_in.nd rfl (by first | exact .inl rfl | exact .inr rfl) (by first | exact .inl rfl | exact .inr rfl)) eg_nil))), et_yes, (ee_or (ee_and (ee_cmp (op_neD (room_eq hr)) co_ne (ee_var (i := 4) rfl (by first | exact .inl rfl | exact .inr (.inl rfl) | exact .inr (.inr rfl)) (by decide) (by decide)) ee_int rfl) (ee_one (ee_cmp (op_eqD (room_eq hr)) co_eq (ee_var (i := 5) rfl (by first | exact .inl rfl | exact .inr (.inl rfl) | exact .inr (.inr rfl)) (by decide) (by decide)) (ee_gint rfl W.c_NOUGHT) rfl))) (ee_one (ee_and (ee_cmp (op_eqD (room_eq hr)) co_eq (ee_var (i := 4) rfl (by first | exact .inl rfl | exact .inr (.inl rfl) | exact .inr (.inr rfl)) (by decide) (by decide)) ee_int rfl) (ee_one (ee_cmp (op_eqD (room_eq hr)) co_eq (ee_var (i := 5) rfl (by first | exact .inl rfl | exact .inr (.inl rfl) | exact .inr (.inr rfl)) (by decide) (by decide)) (ee_gint rfl W.c_STRONG) rfl)))))⟩)) rfl) (fun _ => rfl)) (ess_one (es_ret ee_bl)) ess_nil))) (ess_one (es_ret ee_bl))))
theorem sc_is_table : FnScope ["thing", "row", "own"] ["thing"] (defScope s_is_table) := ⟨rfl, rfl, rfl, by decide +kernel, rfl, by decide +kernel, by decide +kernel⟩
def b_is_table : FS := fSeq (fIfS (tOrA (tNotA (tOfE (fCallU 2 (f_is_tuple_of) (fCons (fVar 0) (fCons (fCon (.int 2)) (fNil)))))) (tOrA (tNotA (tOfE (fCallU 1 (f_is_count) (fCons (f2 gIxD (fVar 0) (fCon (.int 0))) (fNil))))) (tNotA (tOfE (fCall cIsi (fCons (f2 gIxD (fVar 0) (fCon (.int 1))) (fCons (fCon (.ty .tuple)) (fNil)))))))) (fRet (fCon (.bl false))) (fNext)) (fRet (fCallL lAll (fLcX (iSeqD (f2 gIxD (fVar 0) (fCon (.int 1)))) (.nm 1) (fYes) (fAnd (fCallU 2 (f_is_tuple_of) (fCons (fVar 1) (fCons (f2 gIxD (fVar 0) (fCon (.int 0))) (fNil)))) (fCallL lAll (fLcX (iSeqD (fVar 1)) (.nm 2) (fYes) (fCallU 1 (f_is_number) (fCons (fVar 2) (fNil))) [2] 3000))) [1] 3000)))
def f_is_table : GL := runF 3 b_is_table
theorem ok_is_table {P : Program} {K : PySem.W.Frag} {mg : Str → Option Value} {base : Heap} {g : Ev.Gl} (W : Wd K mg g) : ∀ k, 3 ≤ k → FnOk P g.w K mg base (L2.CX P g.w) k (g.fa 9) (g.fd 9) ["thing"] (spA g 1 f_is_table)
  | 0, h => absurd h (by decide)
  | k + 1, h => ok_fn (N := ["thing", "row", "own"]) (ps := ["thing"]) (body := b_is_table) W.d_is_table.F sc_is_table fun cdv A outer s H E hr => by
    unfold b_is_table
    exact (ess_cons (es_if (PW.pt (ew_or (et_not (et_truth (ee_call W.d_is_tuple_of (ok_is_tuple_of W k (by omega)) hr rfl (at_of (takes_of rfl rfl rfl rfl)) (ea_cons (ee_var (i := 0) rfl (by first | exact .inl rfl | exact .inr (.inl rfl) | exact .inr (.inr rfl)) (by decide) (by decide)) (ea_cons (ee_gint rfl W.c_PAIR) ea_nil rfl) rfl)) (fun _ => rfl))) (ew_or (et_not (et_truth (ee_call W.d_is_count (ok_is_count W k (by omega)) hr rfl (at_of (takes_of rfl rfl rfl rfl)) (ea_cons (ee_ixd rfl (room_d hr) (ee_var (i := 0) rfl (by first | exact .inl rfl | exact .inr (.inl rfl) | exact .inr (.inr rfl)) (by decide) (by decide)) ee_int (fun _ _ => rfl)) ea_nil rfl)) (fun _ => rfl))) (ew_or1 (et_not (et_truth (ee_callB cr_isi co_isi rfl W.n_isinstance boot_isinstance (ea_cons (ee_ixd rfl (room_d hr) (ee_var (i := 0) rfl (by first | exact .inl rfl | exact .inr (.inl rfl) | exact .inr (.inr rfl)) (by decide) (by decide)) ee_int (fun _ _ => rfl)) (ea_cons (ee_ty .tuple rfl W.n_tuple boot_tuple) ea_nil rfl) rfl)) (fun _ => rfl))))))) (ess_one (es_ret ee_bl)) ess_nil) (ess_one (es_ret (ee_callBL (cr_all rfl) lo_all rfl W.n_all boot_all (el_lcX (own := [("row", 1)]) (t := .nm 1) 3000 rfl sc_is_table.nd (pas_of (takes_of rfl rfl rfl rfl) rfl rfl) (ei_seqd rfl (ee_ixd rfl (room_d hr) (ee_var (i := 0) rfl (by first | exact .inl rfl | exact .inr (.inl rfl) | exact .inr (.inr rfl)) (by decide) (by decide)) ee_int (fun _ _ => rfl))) (blkOk_by (by kernel_rfl)) (by decide) (fun s H C cl fp xe E pb => ⟨(eg_nm (i := 1) sc_is_table.nd rfl (by first | exact .inl rfl | exact .inr rfl) (by first | exact .inl rfl | exact .inr rfl)), et_yes, (ee_and (ee_call W.d_is_tuple_of (ok_is_tuple_of W k (by omega)) hr rfl pb.call (ea_cons (ee_var (i := 1) rfl (by first | exact .inl rfl | exact .inr (.inl rfl) | exact .inr (.inr rfl)) (by decide) (by decide)) (ea_cons (ee_ixd rfl (room_d hr) (ee_var (i := 0) rfl (by first | exact .inl rfl | exact .inr (.inl rfl) | exact .inr (.inr rfl)) (by decide) (by decide)) ee_int (fun _ _ => rfl)) ea_nil rfl) rfl)) (ee_one (ee_callBL (cr_all rfl) lo_all rfl W.n_all boot_all (el_lcX (own := [("own", 2)]) (t := .nm 2) 3000 rfl sc_is_table.nd pb (ei_seqd rfl (ee_var (i := 1) rfl (by first | exact .inl rfl | exact .inr (.inl rfl) | exact .inr (.inr rfl)) (by decide) (by decide))) (blkOk_by (by kernel_rfl)) (by decide) (fun s H C cl fp xe E pb => ⟨(eg_nm (i := 2) sc_is_table.nd rfl (by first | exact .inl rfl | exact .inr rfl) (by first | exact .inl rfl | exact .inr rfl)), et_yes, (ee_call W.d_is_number (ok_is_number W k (by omega)) hr rfl pb.call (ea_cons (ee_var (i := 2) rfl (by first | exact .inl rfl | exact .inr (.inl rfl) | exact .inr (.inr rfl)) (by decide) (by decide)) ea_nil rfl))⟩)) rfl)))⟩)) rfl))))
theorem sc_is_table_of : FnScope ["thing", "pattern"] ["thing", "pattern"] (defScope s_is_table_of) := ⟨rfl, rfl, rfl, by decide +kernel, rfl, by decide +kernel, by decide +kernel⟩
def b_is_table_of : FS := fRet (fAnd (fCallU 1 (f_is_table) (fCons (fVar 0) (fNil))) (fCallU 2 (f_is_of_in) (fCons (fVar 0) (fCons (fVar 1) (fNil)))))
def f_is_table_of : GL := runF 2 b_is_table_of
theorem ok_is_table_of {P : Program} {K : PySem.W.Frag} {mg : Str → Option Value} {base : Heap} {g : Ev.Gl} (W : Wd K mg g) : ∀ k, 4 ≤ k → FnOk P g.w K mg base (L2.CX P g.w) k (g.fa 14) (g.fd 14) ["thing", "pattern"] (spA g 2 f_is_table_of)
  | 0, h => absurd h (by decide)
  | k + 1, h => ok_fn (N := ["thing", "pattern"]) (ps := ["thing", "pattern"]) (body := b_is_table_of) W.d_is_table_of.F sc_is_table_of fun cdv A outer s H E hr => by
    unfold b_is_table_of
    exact (ess_one (es_ret (ee_and (ee_call W.d_is_table (ok_is_table W k (by omega)) hr rfl (at_of (takes_of rfl rfl rfl rfl)) (ea_cons (ee_var (i := 0) rfl (by first | exact .inl rfl | exact .inr (.inl rfl) | exact .inr (.inr rfl)) (by decide) (by decide)) ea_nil rfl)) (ee_one (ee_call W.d_is_of_in (ok_is_of_in W k (by omega)) hr rfl (at_of (takes_of rfl rfl rfl rfl)) (ea_cons (ee_var (i := 0) rfl (by first | exact .inl rfl | exact .inr (.inl rfl) | exact .inr (.inr rfl)) (by decide) (by decide)) (ea_cons (ee_var (i := 1) rfl (by first | exact .inl rfl | exact .inr (.inl rfl) | exact .inr (.inr rfl)) (by decide) (by decide)) ea_nil rfl) rfl))))))
theorem sc_rank_in : FnScope ["table", "left", "found", "last", "column", "goods", "lead", "row", "place", "own", "far"] ["table"] (defScope s_rank_in) := ⟨rfl, rfl, rfl, by decide +kernel, rfl, by decide +kernel, by decide +kernel⟩
def b_rank_in : FS := fSeq (fAsg (.tp [.nm 1, .nm 2, .nm 3]) (fTup (fCons (eOfL (fLc (iSeqD (f2 gIxD (fVar 0) (fCon (.int 1)))) (.nm 7) (fYes) (fCall (byRef lList cList) (fCons (fVar 7) (fNil))) [7] 3000)) (fCons (fCon (.int 0)) (fCons (fCon (.int 1)) (fNil)))))) (fSeq (fFor (iRng1A (fCons (f2 gIxD (fVar 0) (fCon (.int 0))) (fNil))) (.nm 4) (fSeq (fSet 5 (eOfL (fLc (iEnumA (fCons (fVar 1) (fNil))) (.tp [.nm 8, .nm 7]) (t2 (cEq true) (f2 gIxD (fVar 7) (fVar 4)) (fCon (.int 0))) (fVar 8) [8, 7] 3000))) (fSeq (fIfS (t2 (cEq false) (fVar 5) (fLst (fNil))) (fCnt) (fNext)) (fSeq (fSet 6 (fMet mPop (fVar 1) (fCons (f2 gIxD (fVar 5) (fCon (.int 0))) (fNil)))) (fSeq (fSet 1 (eOfL (fLc (iSeqD (fVar 1)) (.nm 7) (fYes) (eOfL (fLc (iZipA2 (fCons (fVar 7) (fCons (fVar 6) (fNil)))) (.tp [.nm 9, .nm 10]) (fYes) (f2 gDiv (f2 gSub (f2 gMulE (f2 gIxD (fVar 6) (fVar 4)) (fVar 9)) (f2 gMulE (f2 gIxD (fVar 7) (fVar 4)) (fVar 10))) (fVar 3)) [9, 10] 3000)) [7] 3000))) (fAsg (.tp [.nm 2, .nm 3]) (fTup (fCons (f2 gAdd (fVar 2) (fCon (.int 1))) (fCons (f2 gIxD (fVar 6) (fVar 4)) (fNil))))))))) 3000) (fRet (fVar 2)))
def f_rank_in : GL := runF 11 b_rank_in
theorem ok_rank_in {P : Program} {K : PySem.W.Frag} {mg : Str → Option Value} {base : Heap} {g : Ev.Gl} (W : Wd K mg g) : ∀ k, 1 ≤ k → FnOk P g.w K mg base (L2.CX P g.w) k (g.fa 10) (g.fd 10) ["table"] (spA g 1 f_rank_in)
  | 0, h => absurd h (by decide)
  | k + 1, h => ok_fn (N := ["table", "left", "found", "last", "column", "goods", "lead", "row", "place", "own", "far"]) (ps := ["table"]) (body := b_rank_in) W.d_rank_in.F sc_rank_in fun cdv A outer s H E hr => by
    unfold b_rank_in
    exact (ess_cons (es_asg (ee_tup (ea_cons (ee_L (el_lc (own := [("row", 7)]) (t := .nm 7) 3000 rfl sc_rank_in.nd (ei_seqd rfl (ee_ixd rfl (room_d hr) (ee_var (i := 0) rfl (by first | exact .inl rfl | exact .inr (.inl rfl) | exact .inr (.inr rfl)) (by decide) (by decide)) ee_int (fun _ _ => rfl))) (blkOk_by (by kernel_rfl)) (by decide) (fun s H C cl fp => ⟨(eg_nm (i := 7) sc_rank_in.nd rfl (by first | exact .inl rfl | exact .inr rfl) (by first | exact .inl rfl | exact .inr rfl)), et_yes, (ee_callTy cr_list co_list rfl W.n_list boot_list (ea_cons (ee_var (i := 7) rfl (by first | exact .inl rfl | exact .inr (.inl rfl) | exact .inr (.inr rfl)) (by decide) (by decide)) ea_nil rfl))⟩))) (ea_cons ee_int (ea_cons ee_int ea_nil rfl) rfl) rfl)) (eg_tup rfl (eg_cons (eg_nm (i := 1) sc_rank_in.nd rfl (by first | exact .inl rfl | exact .inr rfl) (by first | exact .inl rfl | exact .inr rfl)) (eg_cons (eg_nm (i := 2) sc_rank_in.nd rfl (by first | exact .inl rfl | exact .inr rfl) (by first | exact .inl rfl | exact .inr rfl)) (eg_cons (eg_nm (i := 3) sc_rank_in.nd rfl (by first | exact .inl rfl | exact .inr rfl) (by first | exact .inl rfl | exact .inr rfl)) eg_nil))))) (ess_cons (es_for 3000 (passes_of rfl) rfl (ei_rng1 rfl W.n_range (ea_cons (ee_ixd rfl (room_d hr) (ee_var (i := 0) rfl (by first | exact .inl rfl | exact .inr (.inl rfl) | exact .inr (.inr rfl)) (by decide) (by decide)) ee_int (fun _ _ => rfl)) ea_nil rfl)) (eg_nm (i := 4) sc_rank_in.nd rfl (by first | exact .inl rfl | exact .inr rfl) (by first | exact .inl rfl | exact .inr rfl)) (ess_cons (es_setLc (i := 5) (own := [("place", 8), ("row", 7)]) (t := .tp [.nm 8, .nm 7]) 3000 rfl sc_rank_in.nd rfl rfl rfl (ei_enum rfl W.n_enumerate (ea_cons (ee_var (i := 1) rfl (by first | exact .inl rfl | exact .inr (.inl rfl) | exact .inr (.inr rfl)) (by decide) (by decide)) ea_nil rfl)) (blkOk_by (by kernel_rfl)) (by decide) (fun s H C cl fp => ⟨(eg_tup rfl (eg_cons (eg_nm (i := 8) sc_rank_in.nd rfl (by first | exact .inl rfl | exact .inr rfl) (by first | exact .inl rfl | exact .inr rfl)) (eg_cons (eg_nm (i := 7) sc_rank_in.nd rfl (by first | exact .inl rfl | exact .inr rfl) (by first | exact .inl rfl | exact .inr rfl)) eg_nil))), (et_one (et_cmp (op_neD (room_eq hr)) co_ne (ee_ixd rfl (room_d hr) (ee_var (i := 7) rfl (by first | exact .inl rfl | exact .inr (.inl rfl) | exact .inr (.inr rfl)) (by decide) (by decide)) (ee_var (i := 4) rfl (by first | exact .inl rfl | exact .inr (.inl rfl) | exact .inr (.inr rfl)) (by decide) (by decide)) (fun _ _ => rfl)) ee_int rfl)), (ee_var (i := 8) rfl (by first | exact .inl rfl | exact .inr (.inl rfl) | exact .inr (.inr rfl)) (by decide) (by decide))⟩)) (ess_cons (es_if (et_cmp (op_eqD (room_eq hr)) co_eq (ee_var (i := 5) rfl (by first | exact .inl rfl | exact .inr (.inl rfl) | exact .inr (.inr rfl)) (by decide) (by decide)) (ee_lst ea_nil) rfl) (ess_one es_continue) ess_nil) (ess_cons (es_set (i := 6) sc_rank_in.nd rfl (by first | exact .inl rfl | exact .inr rfl) (ee_met PySem.F.slot_list_pop PySem.F.type_list_pop (MtR.or mt_pop mt_popAt) mo_pop (ee_var (i := 1) rfl (by first | exact .inl rfl | exact .inr (.inl rfl) | exact .inr (.inr rfl)) (by decide) (by decide)) (ea_cons (ee_ixd rfl (room_d hr) (ee_var (i := 5) rfl (by first | exact .inl rfl | exact .inr (.inl rfl) | exact .inr (.inr rfl)) (by decide) (by decide)) ee_int (fun _ _ => rfl)) ea_nil rfl)) rfl (by first | exact .inl rfl | exact .inr rfl)) (ess_cons (es_setLc (i := 1) (own := [("row", 7)]) (t := .nm 7) 3000 rfl sc_rank_in.nd rfl rfl rfl (ei_seqd rfl (ee_var (i := 1) rfl (by first | exact .inl rfl | exact .inr (.inl rfl) | exact .inr (.inr rfl)) (by decide) (by decide))) (blkOk_by (by kernel_rfl)) (by decide) (fun s H C cl fp => ⟨(eg_nm (i := 7) sc_rank_in.nd rfl (by first | exact .inl rfl | exact .inr rfl) (by first | exact .inl rfl | exact .inr rfl)), et_yes, (ee_L (el_lc (own := [("own", 9), ("far", 10)]) (t := .tp [.nm 9, .nm 10]) 3000 rfl sc_rank_in.nd (ei_zip rfl W.n_zip (ea_cons (ee_var (i := 7) rfl (by first | exact .inl rfl | exact .inr (.inl rfl) | exact .inr (.inr rfl)) (by decide) (by decide)) (ea_cons (ee_var (i := 6) rfl (by first | exact .inl rfl | exact .inr (.inl rfl) | exact .inr (.inr rfl)) (by decide) (by decide)) ea_nil rfl) rfl)) (blkOk_by (by kernel_rfl)) (by decide) (fun s H C cl fp => ⟨(eg_tup rfl (eg_cons (eg_nm (i := 9) sc_rank_in.nd rfl (by first | exact .inl rfl | exact .inr rfl) (by first | exact .inl rfl | exact .inr rfl)) (eg_cons (eg_nm (i := 10) sc_rank_in.nd rfl (by first | exact .inl rfl | exact .inr rfl) (by first | exact .inl rfl | exact .inr rfl)) eg_nil))), et_yes, (ee_op or_div bo_div (ee_op op_sub bo_sub (ee_op or_mulE bo_mulE (ee_ixd rfl (room_d hr) (ee_var (i := 6) rfl (by first | exact .inl rfl | exact .inr (.inl rfl) | exact .inr (.inr rfl)) (by decide) (by decide)) (ee_var (i := 4) rfl (by first | exact .inl rfl | exact .inr (.inl rfl) | exact .inr (.inr rfl)) (by decide) (by decide)) (fun _ _ => rfl)) (ee_var (i := 9) rfl (by first | exact .inl rfl | exact .inr (.inl rfl) | exact .inr (.inr rfl)) (by decide) (by decide))) (ee_op or_mulE bo_mulE (ee_ixd rfl (room_d hr) (ee_var (i := 7) rfl (by first | exact .inl rfl | exact .inr (.inl rfl) | exact .inr (.inr rfl)) (by decide) (by decide)) (ee_var (i := 4) rfl (by first | exact .inl rfl | exact .inr (.inl rfl) | exact .inr (.inr rfl)) (by decide) (by decide)) (fun _ _ => rfl)) (ee_var (i := 10) rfl (by first | exact .inl rfl | exact .inr (.inl rfl) | exact .inr (.inr rfl)) (by decide) (by decide)))) (ee_var (i := 3) rfl (by first | exact .inl rfl | exact .inr (.inl rfl) | exact .inr (.inr rfl)) (by decide) (by decide)))⟩)))⟩)) (ess_one (es_asg (ee_tup (ea_cons (ee_op or_add bo_add (ee_var (i := 2) rfl (by first | exact .inl rfl | exact .inr (.inl rfl) | exact .inr (.inr rfl)) (by decide) (by decide)) ee_int) (ea_cons (ee_ixd rfl (room_d hr) (ee_var (i := 6) rfl (by first | exact .inl rfl | exact .inr (.inl rfl) | exact .inr (.inr rfl)) (by decide) (by decide)) (ee_var (i := 4) rfl (by first | exact .inl rfl | exact .inr (.inl rfl) | exact .inr (.inr rfl)) (by decide) (by decide)) (fun _ _ => rfl)) ea_nil rfl) rfl)) (eg_tup rfl (eg_cons (eg_nm (i := 2) sc_rank_in.nd rfl (by first | exact .inl rfl | exact .inr rfl) (by first | exact .inl rfl | exact .inr rfl)) (eg_cons (eg_nm (i := 3) sc_rank_in.nd rfl (by first | exact .inl rfl | exact .inr rfl) (by first | exact .inl rfl | exact .inr rfl)) eg_nil)))))))))) (ess_one (es_ret (ee_var (i := 2) rfl (by first | exact .inl rfl | exact .inr (.inl rfl) | exact .inr (.inr rfl)) (by decide) (by decide))))))
theorem sc_is_whole_table : FnScope ["pattern", "thing", "own"] ["pattern", "thing"] (defScope s_is_whole_table) := ⟨rfl, rfl, rfl, by decide +kernel, rfl, by decide +kernel, by decide +kernel⟩
def b_is_whole_table : FS := fSeq (fSet 2 (fCallU 1 (f_sure_pattern) (fCons (fVar 0) (fNil)))) (fRet (fAnd (fCallU 2 (f_is_table_of) (fCons (fVar 1) (fCons (fVar 2) (fNil)))) (eOfT (t2 (cEq false) (fCallU 1 (f_rank_in) (fCons (fVar 1) (fNil))) (fCallU 1 (f_rank_of) (fCons (fVar 2) (fNil)))))))
def f_is_whole_table : GL := runF 3 b_is_whole_table
theorem ok_is_whole_table {P : Program} {K : PySem.W.Frag} {mg : Str → Option Value} {base : Heap} {g : Ev.Gl} (W : Wd K mg g) : ∀ k, 15 ≤ k → FnOk P g.w K mg base (L2.CX P g.w) k (g.fa 41) (g.fd 41) ["pattern", "thing"] (spA g 2 f_is_whole_table)
  | 0, h => absurd h (by decide)
  | k + 1, h => ok_fn (N := ["pattern", "thing", "own"]) (ps := ["pattern", "thing"]) (body := b_is_whole_table) W.d_is_whole_table.F sc_is_whole_table fun cdv A outer s H E hr => by
    unfold b_is_whole_table
    exact (ess_cons (es_set (i := 2) sc_is_whole_table.nd rfl (by first | exact .inl rfl | exact .inr rfl) (ee_call W.d_sure_pattern (ok_sure_pattern W k (by omega)) hr rfl (at_of (takes_of rfl rfl rfl rfl)) (ea_cons (ee_var (i := 0) rfl (by first | exact .inl rfl | exact .inr (.inl rfl) | exact .inr (.inr rfl)) (by decide) (by decide)) ea_nil rfl)) rfl (by first | exact .inl rfl | exact .inr rfl)) (ess_one (es_ret (ee_and (ee_call W.d_is_table_of (ok_is_table_of W k (by omega)) hr rfl (at_of (takes_of rfl rfl rfl rfl)) (ea_cons (ee_var (i := 1) rfl (by first | exact .inl rfl | exact .inr (.inl rfl) | exact .inr (.inr rfl)) (by decide) (by decide)) (ea_cons (ee_var (i := 2) rfl (by first | exact .inl rfl | exact .inr (.inl rfl) | exact .inr (.inr rfl)) (by decide) (by decide)) ea_nil rfl) rfl)) (ee_one (ee_cmp (op_eqD (room_eq hr)) co_eq (ee_call W.d_rank_in (ok_rank_in W k (by omega)) hr rfl (at_of (takes_of rfl rfl rfl rfl)) (ea_cons (ee_var (i := 1) rfl (by first | exact .inl rfl | exact .inr (.inl rfl) | exact .inr (.inr rfl)) (by decide) (by decide)) ea_nil rfl)) (ee_call W.d_rank_of (ok_rank_of W k (by omega)) hr rfl (at_of (takes_of rfl rfl rfl rfl)) (ea_cons (ee_var (i := 2) rfl (by first | exact .inl rfl | exact .inr (.inl rfl) | exact .inr (.inr rfl)) (by decide) (by decide)) ea_nil rfl)) rfl))))))
theorem sc_matching : FnScope ["pattern", "own", "lists", "found", "left", "row", "column", "used", "rest", "line", "_", "far"] ["pattern"] (defScope s_matching) := ⟨rfl, rfl, rfl, by decide +kernel, rfl, by decide +kernel, by decide +kernel⟩
def b_matching : FS := fSeq (fSet 1 (fCallU 1 (f_sure_pattern) (fCons (fVar 0) (fNil)))) (fSeq (fPar 2 3 (fCons (fCallU 1 (f_adjoined) (fCons (fVar 1) (fNil))) (fCons (fLst (fNil)) (fNil)))) (fSeq (fSet 4 (fCallU 1 (f_rank_of) (fCons (fVar 1) (fNil)))) (fSeq (fFor (iRng1A (fCons (fCall cLenD (fCons (fVar 2) (fNil))) (fNil))) (.nm 5) (fFor (iSeqD (f2 gIxD (fVar 2) (fVar 5))) (.nm 6) (fSeq (fSet 7 (f2 gAdd (eOfL (fLc (iSeqD (fVar 3)) (.tp [.nm 10, .nm 11]) (fYes) (fVar 11) [10, 11] 3000)) (fLst (fCons (fVar 6) (fNil))))) (fSeq (fSet 8 (eOfL (fLc (iSeqD (fSl (fVar 2) (oSome (f2 gAdd (fVar 5) (fCon (.int 1)))) (oNone))) (.nm 9) (fYes) (eOfL (fLc (iSeqD (fVar 9)) (.nm 11) (t2 (cInE true) (fVar 11) (fVar 7)) (fVar 11) [11] 3000)) [9] 3000))) (fIfS (tAndA (t2 (cInt fun i j => decide (j < i)) (fVar 4) (fCon (.int 0))) (tAndA (t2 (cEq false) (fCall cLenD (fCons (fCallU 2 (f_pairs_grown) (fCons (fVar 8) (fCons (fTup (fNil)) (fNil)))) (fNil))) (f2 gSub (fVar 4) (fCon (.int 1)))) (t2 (cInE true) (fVar 6) (fSl (fVar 7) (oNone) (oSome (fNeg (fCon (.int 1)))))))) (fSeq (fDrop (fMet mAppend (fVar 3) (fCons (fTup (fCons (fVar 5) (fCons (fVar 6) (fNil)))) (fNil)))) (fSeq (fSet 4 (f2 gSub (fVar 4) (fCon (.int 1)))) (fBrk))) (fNext)))) 3000) 3000) (fRet (fCall (byRef lTup cTup) (fCons (fVar 3) (fNil)))))))
def f_matching : GL := runF 12 b_matching
theorem ok_matching {P : Program} {K : PySem.W.Frag} {mg : Str → Option Value} {base : Heap} {g : Ev.Gl} (W : Wd K mg g) : ∀ k, 15 ≤ k → FnOk P g.w K mg base (L2.CX P g.w) k (g.fa 25) (g.fd 25) ["pattern"] (spA g 1 f_matching)
  | 0, h => absurd h (by decide)
  | k + 1, h => ok_fn (N := ["pattern", "own", "lists", "found", "left", "row", "column", "used", "rest", "line", "_", "far"]) (ps := ["pattern"]) (body := b_matching) W.d_matching.F sc_matching fun cdv A outer s H E hr => by
    unfold b_matching
    exact (ess_cons (es_set (i := 1) sc_matching.nd rfl (by first | exact .inl rfl | exact .inr rfl) (ee_call W.d_sure_pattern (ok_sure_pattern W k (by omega)) hr rfl (at_of (takes_of rfl rfl rfl rfl)) (ea_cons (ee_var (i := 0) rfl (by first | exact .inl rfl | exact .inr (.inl rfl) | exact .inr (.inr rfl)) (by decide) (by decide)) ea_nil rfl)) rfl (by first | exact .inl rfl | exact .inr rfl)) (ess_cons (es_par (i := 2) (j := 3) rfl sc_matching.nd rfl rfl (by decide) rfl rfl (ea_cons (ee_call W.d_adjoined (ok_adjoined W k (by omega)) hr rfl (at_of (takes_of rfl rfl rfl rfl)) (ea_cons (ee_var (i := 1) rfl (by first | exact .inl rfl | exact .inr (.inl rfl) | exact .inr (.inr rfl)) (by decide) (by decide)) ea_nil rfl)) (ea_cons (ee_lst ea_nil) ea_nil rfl) rfl) rfl) (ess_cons (es_set (i := 4) sc_matching.nd rfl (by first | exact .inl rfl | exact .inr rfl) (ee_call W.d_rank_of (ok_rank_of W k (by omega)) hr rfl (at_of (takes_of rfl rfl rfl rfl)) (ea_cons (ee_var (i := 1) rfl (by first | exact .inl rfl | exact .inr (.inl rfl) | exact .inr (.inr rfl)) (by decide) (by decide)) ea_nil rfl)) rfl (by first | exact .inl rfl | exact .inr rfl)) (ess_cons (es_for 3000 (passes_of rfl) rfl (ei_rng1 rfl W.n_range (ea_cons (ee_callB cr_lend (co_lend rfl) rfl W.n_len PySem.boot_len (ea_cons (ee_var (i := 2) rfl (by first | exact .inl rfl | exact .inr (.inl rfl) | exact .inr (.inr rfl)) (by decide) (by decide)) ea_nil rfl)) ea_nil rfl)) (eg_nm (i := 5) sc_matching.nd rfl (by first | exact .inl rfl | exact .inr rfl) (by first | exact .inl rfl | exact .inr rfl)) (ess_one (es_for 3000 (passes_of rfl) rfl (ei_seqd rfl (ee_ixd rfl (room_d hr) (ee_var (i := 2) rfl (by first | exact .inl rfl | exact .inr (.inl rfl) | exact .inr (.inr rfl)) (by decide) (by decide)) (ee_var (i := 5) rfl (by first | exact .inl rfl | exact .inr (.inl rfl) | exact .inr (.inr rfl)) (by decide) (by decide)) (fun _ _ => rfl))) (eg_nm (i := 6) sc_matching.nd rfl (by first | exact .inl rfl | exact .inr rfl) (by first | exact .inl rfl | exact .inr rfl)) (ess_cons (es_set (i := 7) sc_matching.nd rfl (by first | exact .inl rfl | exact .inr rfl) (ee_op or_add bo_add (ee_L (el_lc (own := [("_", 10), ("far", 11)]) (t := .tp [.nm 10, .nm 11]) 3000 rfl sc_matching.nd (ei_seqd rfl (ee_var (i := 3) rfl (by first | exact .inl rfl | exact .inr (.inl rfl) | exact .inr (.inr rfl)) (by decide) (by decide))) (blkOk_by (by kernel_rfl)) (by decide) (fun s H C cl fp => ⟨(eg_tup rfl (eg_cons (eg_nm (i := 10) sc_matching.nd rfl (by first | exact .inl rfl | exact .inr rfl) (by first | exact .inl rfl | exact .inr rfl)) (eg_cons (eg_nm (i := 11) sc_matching.nd rfl (by first | exact .inl rfl | exact .inr rfl) (by first | exact .inl rfl | exact .inr rfl)) eg_nil))), et_yes, (ee_var (i := 11) rfl (by first | exact .inl rfl | exact .inr (.inl rfl) | exact .inr (.inr rfl)) (by decide) (by decide))⟩))) (ee_lst (ea_cons (ee_var (i := 6) rfl (by first | exact .inl rfl | exact .inr (.inl rfl) | exact .inr (.inr rfl)) (by decide) (by decide)) ea_nil rfl))) rfl (by first | exact .inl rfl | exact .inr rfl)) (ess_cons (es_setLc (i := 8) (own := [("line", 9)]) (t := .nm 9) 3000 rfl sc_matching.nd rfl rfl rfl (ei_seqd rfl (ee_sl (ee_var (i := 2) rfl (by first | exact .inl rfl | exact .inr (.inl rfl) | exact .inr (.inr rfl)) (by decide) (by decide)) (eo_some (ee_op or_add bo_add (ee_var (i := 5) rfl (by first | exact .inl rfl | exact .inr (.inl rfl) | exact .inr (.inr rfl)) (by decide) (by decide)) ee_int)) eo_none)) (blkOk_by (by kernel_rfl)) (by decide) (fun s H C cl fp => ⟨(eg_nm (i := 9) sc_matching.nd rfl (by first | exact .inl rfl | exact .inr rfl) (by first | exact .inl rfl | exact .inr rfl)), et_yes, (ee_L (el_lc (own := [("far", 11)]) (t := .nm 11) 3000 rfl sc_matching.nd (ei_seqd rfl (ee_var (i := 9) rfl (by first | exact .inl rfl | exact .inr (.inl rfl) | exact .inr (.inr rfl)) (by decide) (by decide))) (blkOk_by (by kernel_rfl)) (by decide) (fun s H C cl fp => ⟨(eg_nm (i := 11) sc_matching.nd rfl (by first | exact .inl rfl | exact .inr rfl) (by first | exact .inl rfl | exact .inr rfl)), (et_one (et_cmp (or_notinE (room_in hr)) (co_notinT rfl) (ee_var (i := 11) rfl (by first | exact .inl rfl | exact .inr (.inl rfl) | exact .inr (.inr rfl)) (by decide) (by decide)) (ee_var (i := 7) rfl (by first | exact .inl rfl | exact .inr (.inl rfl) | exact .inr (.inr rfl)) (by decide) (by decide)) rfl)), (ee_var (i := 11) rfl (by first | exact .inl rfl | exact .inr (.inl rfl) | exact .inr (.inr rfl)) (by decide) (by decide))⟩)))⟩)) (ess_one (es_if (PW.pt (ew_and (et_cmp op_gt co_int (ee_var (i := 4) rfl (by first | exact .inl rfl | exact .inr (.inl rfl) | exact .inr (.inr rfl)) (by decide) (by decide)) ee_int rfl) (ew_and (et_cmp (op_eqD (room_eq hr)) co_eq (ee_callB cr_lend (co_lend rfl) rfl W.n_len PySem.boot_len (ea_cons (ee_call W.d_pairs_grown (ok_pairs_grown W k (by omega)) hr rfl (at_of (takes_of rfl rfl rfl rfl)) (ea_cons (ee_var (i := 8) rfl (by first | exact .inl rfl | exact .inr (.inl rfl) | exact .inr (.inr rfl)) (by decide) (by decide)) (ea_cons (ee_tup ea_nil) ea_nil rfl) rfl)) ea_nil rfl)) (ee_op op_sub bo_sub (ee_var (i := 4) rfl (by first | exact .inl rfl | exact .inr (.inl rfl) | exact .inr (.inr rfl)) (by decide) (by decide)) ee_int) rfl) (ew_and1 (et_cmp (or_notinE (room_in hr)) (co_notinT rfl) (ee_var (i := 6) rfl (by first | exact .inl rfl | exact .inr (.inl rfl) | exact .inr (.inr rfl)) (by decide) (by decide)) (ee_sl (ee_var (i := 7) rfl (by first | exact .inl rfl | exact .inr (.inl rfl) | exact .inr (.inr rfl)) (by decide) (by decide)) eo_none (eo_some (ee_neg ee_int))) rfl))))) (ess_cons (es_expr (ee_met PySem.F.slot_list_append PySem.F.type_list_append mt_append mo_append (ee_var (i := 3) rfl (by first | exact .inl rfl | exact .inr (.inl rfl) | exact .inr (.inr rfl)) (by decide) (by decide)) (ea_cons (ee_tup (ea_cons (ee_var (i := 5) rfl (by first | exact .inl rfl | exact .inr (.inl rfl) | exact .inr (.inr rfl)) (by decide) (by decide)) (ea_cons (ee_var (i := 6) rfl (by first | exact .inl rfl | exact .inr (.inl rfl) | exact .inr (.inr rfl)) (by decide) (by decide)) ea_nil rfl) rfl)) ea_nil rfl))) (ess_cons (es_set (i := 4) sc_matching.nd rfl (by first | exact .inl rfl | exact .inr rfl) (ee_op op_sub bo_sub (ee_var (i := 4) rfl (by first | exact .inl rfl | exact .inr (.inl rfl) | exact .inr (.inr rfl)) (by decide) (by decide)) ee_int) rfl (by first | exact .inl rfl | exact .inr rfl)) (ess_one es_break))) ess_nil))))))) (ess_one (es_ret (ee_callTy cr_tup co_tup rfl W.n_tuple boot_tuple (ea_cons (ee_var (i := 3) rfl (by first | exact .inl rfl | exact .inr (.inl rfl) | exact .inr (.inr rfl)) (by decide) (by decide)) ea_nil rfl))))))))
theorem sc_matchings_many : FnScope ["pattern", "own", "ways", "line", "later", "used", "many", "column", "both", "most", "far"] ["pattern"] (defScope s_matchings_many) := ⟨rfl, rfl, rfl, by decide +kernel, rfl, by decide +kernel, by decide +kernel⟩
def b_matchings_many : FS := fSeq (fSet 1 (fCallU 1 (f_sure_pattern) (fCons (fVar 0) (fNil)))) (fSeq (fSet 2 (fDict true (fpCons (fTup (fNil)) (fCon (.int 1)) (fpNil)))) (fSeq (fFor (iSeqD (fCallU 1 (f_adjoined) (fCons (fVar 1) (fNil)))) (.nm 3) (fSeq (fSet 4 (fCall cDict (fCons (fVar 2) (fNil)))) (fSeq (fLockS 2 (fFor (iDpA (fVar 2)) (.tp [.nm 5, .nm 6]) (fFor (iSeqD (eOfL (fLc (iSeqD (fVar 3)) (.nm 10) (t2 (cInE true) (fVar 10) (fVar 5)) (fVar 10) [10] 3000))) (.nm 7) (fSeq (fSet 8 (fCall (byRef lTup cTup) (fCons (fCall cSort (fCons (f2 gAdd (fVar 5) (fTup (fCons (fVar 7) (fNil)))) (fNil))) (fNil)))) (fSetD (f2 gAdd (fMetD mGet (fVar 4) (fCons (fVar 8) (fCons (fCon (.int 0)) (fNil)))) (fVar 6)) (fVar 4) (fVar 8))) 3000) 3000)) (fSet 2 (fVar 4)))) 3000) (fSeq (fSet 9 (fCallU 1 (f_rank_of) (fCons (fVar 1) (fNil)))) (fLockS 2 (fRet (fCallL lSum (fLc (iDpA (fVar 2)) (.tp [.nm 5, .nm 6]) (t2 (cEq false) (fCall cLenD (fCons (fVar 5) (fNil))) (fVar 9)) (fVar 6) [5, 6] 3000)))))))
def f_matchings_many : GL := runF 11 b_matchings_many
theorem ok_matchings_many {P : Program} {K : PySem.W.Frag} {mg : Str → Option Value} {base : Heap} {g : Ev.Gl} (W : Wd K mg g) : ∀ k, 15 ≤ k → FnOk P g.w K mg base (L2.CX P g.w) k (g.fa 30) (g.fd 30) ["pattern"] (spA g 1 f_matchings_many)
  | 0, h => absurd h (by decide)
  | k + 1, h => ok_fn (N := ["pattern", "own", "ways", "line", "later", "used", "many", "column", "both", "most", "far"]) (ps := ["pattern"]) (body := b_matchings_many) W.d_matchings_many.F sc_matchings_many fun cdv A outer s H E hr => by
    unfold b_matchings_many
    exact (ess_cons (es_set (i := 1) sc_matchings_many.nd rfl (by first | exact .inl rfl | exact .inr rfl) (ee_call W.d_sure_pattern (ok_sure_pattern W k (by omega)) hr rfl (at_of (takes_of rfl rfl rfl rfl)) (ea_cons (ee_var (i := 0) rfl (by first | exact .inl rfl | exact .inr (.inl rfl) | exact .inr (.inr rfl)) (by decide) (by decide)) ea_nil rfl)) rfl (by first | exact .inl rfl | exact .inr rfl)) (ess_cons (es_set (i := 2) sc_matchings_many.nd rfl (by first | exact .inl rfl | exact .inr rfl) (ee_disp true rfl (room_d hr) (ed_cons (ee_tup ea_nil) ee_int ed_nil)) rfl (by first | exact .inl rfl | exact .inr rfl)) (ess_cons (es_for 3000 (passes_of rfl) rfl (ei_seqd rfl (ee_call W.d_adjoined (ok_adjoined W k (by omega)) hr rfl (at_of (takes_of rfl rfl rfl rfl)) (ea_cons (ee_var (i := 1) rfl (by first | exact .inl rfl | exact .inr (.inl rfl) | exact .inr (.inr rfl)) (by decide) (by decide)) ea_nil rfl))) (eg_nm (i := 3) sc_matchings_many.nd rfl (by first | exact .inl rfl | exact .inr rfl) (by first | exact .inl rfl | exact .inr rfl)) (ess_cons (es_set (i := 4) sc_matchings_many.nd rfl (by first | exact .inl rfl | exact .inr rfl) (ee_callTy (cr_dictA rfl (room_dd hr)) (co_dict rfl) rfl W.n_dict boot_dict (ea_cons (ee_var (i := 2) rfl (by first | exact .inl rfl | exact .inr (.inl rfl) | exact .inr (.inr rfl)) (by decide) (by decide)) ea_nil rfl)) rfl (by first | exact .inl rfl | exact .inr rfl)) (ess_cons (es_lock (i := 2) (es_for 3000 (passes_of rfl) rfl (ei_dpairs rfl (ee_var (i := 2) rfl (by first | exact .inl rfl | exact .inr (.inl rfl) | exact .inr (.inr rfl)) (by decide) (by decide))) (eg_tup rfl (eg_cons (eg_nm (i := 5) sc_matchings_many.nd rfl (by first | exact .inl rfl | exact .inr rfl) (by first | exact .inl rfl | exact .inr rfl)) (eg_cons (eg_nm (i := 6) sc_matchings_many.nd rfl (by first | exact .inl rfl | exact .inr rfl) (by first | exact .inl rfl | exact .inr rfl)) eg_nil))) (ess_one (es_for 3000 (passes_of rfl) rfl (ei_seqd rfl (ee_L (el_lc (own := [("far", 10)]) (t := .nm 10) 3000 rfl sc_matchings_many.nd (ei_seqd rfl (ee_var (i := 3) rfl (by first | exact .inl rfl | exact .inr (.inl rfl) | exact .inr (.inr rfl)) (by decide) (by decide))) (blkOk_by (by kernel_rfl)) (by decide) (fun s H C cl fp => ⟨(eg_nm (i := 10) sc_matchings_many.nd rfl (by first | exact .inl rfl | exact .inr rfl) (by first | exact .inl rfl | exact .inr rfl)), (et_one (et_cmp (or_notinE (room_in hr)) (co_notinT rfl) (ee_var (i := 10) rfl (by first | exact .inl rfl | exact .inr (.inl rfl) | exact .inr (.inr rfl)) (by decide) (by decide)) (ee_var (i := 5) rfl (by first | exact .inl rfl | exact .inr (.inl rfl) | exact .inr (.inr rfl)) (by decide) (by decide)) rfl)), (ee_var (i := 10) rfl (by first | exact .inl rfl | exact .inr (.inl rfl) | exact .inr (.inr rfl)) (by decide) (by decide))⟩)))) (eg_nm (i := 7) sc_matchings_many.nd rfl (by first | exact .inl rfl | exact .inr rfl) (by first | exact .inl rfl | exact .inr rfl)) (ess_cons (es_set (i := 8) sc_matchings_many.nd rfl (by first | exact .inl rfl | exact .inr rfl) (ee_callTy cr_tup co_tup rfl W.n_tuple boot_tuple (ea_cons (ee_callB (cr_sortV (room_sort hr)) co_sort rfl W.n_sorted boot_sorted (ea_cons (ee_op or_add bo_add (ee_var (i := 5) rfl (by first | exact .inl rfl | exact .inr (.inl rfl) | exact .inr (.inr rfl)) (by decide) (by decide)) (ee_tup (ea_cons (ee_var (i := 7) rfl (by first | exact .inl rfl | exact .inr (.inl rfl) | exact .inr (.inr rfl)) (by decide) (by decide)) ea_nil rfl))) ea_nil rfl)) ea_nil rfl)) rfl (by first | exact .inl rfl | exact .inr rfl)) (ess_one (es_setd rfl (room_d hr) (ee_op or_add bo_add (ee_dmet rfl PySem.F.slot_dict_get PySem.F.type_dict_get (mt_dget (room_d hr)) mo_get (ee_var (i := 4) rfl (by first | exact .inl rfl | exact .inr (.inl rfl) | exact .inr (.inr rfl)) (by decide) (by decide)) (ea_cons (ee_var (i := 8) rfl (by first | exact .inl rfl | exact .inr (.inl rfl) | exact .inr (.inr rfl)) (by decide) (by decide)) (ea_cons ee_int ea_nil rfl) rfl)) (ee_var (i := 6) rfl (by first | exact .inl rfl | exact .inr (.inl rfl) | exact .inr (.inr rfl)) (by decide) (by decide))) (ee_var (i := 4) rfl (by first | exact .inl rfl | exact .inr (.inl rfl) | exact .inr (.inr rfl)) (by decide) (by decide)) (ee_var (i := 8) rfl (by first | exact .inl rfl | exact .inr (.inl rfl) | exact .inr (.inr rfl)) (by decide) (by decide))))))))) (ess_one (es_set (i := 2) sc_matchings_many.nd rfl (by first | exact .inl rfl | exact .inr rfl) (ee_var (i := 4) rfl (by first | exact .inl rfl | exact .inr (.inl rfl) | exact .inr (.inr rfl)) (by decide) (by decide)) rfl (by first | exact .inl rfl | exact .inr rfl)))))) (ess_cons (es_set (i := 9) sc_matchings_many.nd rfl (by first | exact .inl rfl | exact .inr rfl) (ee_call W.d_rank_of (ok_rank_of W k (by omega)) hr rfl (at_of (takes_of rfl rfl rfl rfl)) (ea_cons (ee_var (i := 1) rfl (by first | exact .inl rfl | exact .inr (.inl rfl) | exact .inr (.inr rfl)) (by decide) (by decide)) ea_nil rfl)) rfl (by first | exact .inl rfl | exact .inr rfl)) (ess_one (es_lock (i := 2) (es_ret (ee_callBL (cr_sum rfl) lo_sum rfl W.n_sum boot_sum (el_lc (own := [("used", 5), ("many", 6)]) (t := .tp [.nm 5, .nm 6]) 3000 rfl sc_matchings_many.nd (ei_dpairs rfl (ee_var (i := 2) rfl (by first | exact .inl rfl | exact .inr (.inl rfl) | exact .inr (.inr rfl)) (by decide) (by decide))) (blkOk_by (by kernel_rfl)) (by decide) (fun s H C cl fp => ⟨(eg_tup rfl (eg_cons (eg_nm (i := 5) sc_matchings_many.nd rfl (by first | exact .inl rfl | exact .inr rfl) (by first | exact .inl rfl | exact .inr rfl)) (eg_cons (eg_nm (i := 6) sc_matchings_many.nd rfl (by first | exact .inl rfl | exact .inr rfl) (by first | exact .inl rfl | exact .inr rfl)) eg_nil))), (et_one (et_cmp (op_eqD (room_eq hr)) co_eq (ee_callB cr_lend (co_lend rfl) rfl W.n_len PySem.boot_len (ea_cons (ee_var (i := 5) rfl (by first | exact .inl rfl | exact .inr (.inl rfl) | exact .inr (.inr rfl)) (by decide) (by decide)) ea_nil rfl)) (ee_var (i := 9) rfl (by first | exact .inl rfl | exact .inr (.inl rfl) | exact .inr (.inr rfl)) (by decide) (by decide)) rfl)), (ee_var (i := 6) rfl (by first | exact .inl rfl | exact .inr (.inl rfl) | exact .inr (.inr rfl)) (by decide) (by decide))⟩)) rfl))))))))
theorem sc_most_rank : FnScope ["pattern"] ["pattern"] (defScope s_most_rank) := ⟨rfl, rfl, rfl, by decide +kernel, rfl, by decide +kernel, by decide +kernel⟩
def b_most_rank : FS := fRet (fCallU 1 (f_rank_of) (fCons (fCallU 1 (f_sure_pattern) (fCons (fVar 0) (fNil))) (fNil)))
def f_most_rank : GL := runF 1 b_most_rank
theorem ok_most_rank {P : Program} {K : PySem.W.Frag} {mg : Str → Option Value} {base : Heap} {g : Ev.Gl} (W : Wd K mg g) : ∀ k, 15 ≤ k → FnOk P g.w K mg base (L2.CX P g.w) k (g.fa 22) (g.fd 22) ["pattern"] (spA g 1 f_most_rank)
  | 0, h => absurd h (by decide)
  | k + 1, h => ok_fn (N := ["pattern"]) (ps := ["pattern"]) (body := b_most_rank) W.d_most_rank.F sc_most_rank fun cdv A outer s H E hr => by
    unfold b_most_rank
    exact (ess_one (es_ret (ee_call W.d_rank_of (ok_rank_of W k (by omega)) hr rfl (at_of (takes_of rfl rfl rfl rfl)) (ea_cons (ee_call W.d_sure_pattern (ok_sure_pattern W k (by omega)) hr rfl (at_of (takes_of rfl rfl rfl rfl)) (ea_cons (ee_var (i := 0) rfl (by first | exact .inl rfl | exact .inr (.inl rfl) | exact .inr (.inr rfl)) (by decide) (by decide)) ea_nil rfl)) ea_nil rfl))))
theorem sc_greatest_pairs : FnScope ["pattern", "column", "row"] ["pattern"] (defScope s_greatest_pairs) := ⟨rfl, rfl, rfl, by decide +kernel, rfl, by decide +kernel, by decide +kernel⟩
def b_greatest_pairs : FS := fRet (fCallU 1 (f_set_of) (fCons (eOfL (fLc (iDpA (fCallU 2 (f_pairs_grown) (fCons (fCallU 1 (f_adjoined) (fCons (fVar 0) (fNil))) (fCons (fTup (fNil)) (fNil))))) (.tp [.nm 1, .nm 2]) (fYes) (fTup (fCons (fVar 2) (fCons (fVar 1) (fNil)))) [1, 2] 3000)) (fNil)))
def f_greatest_pairs : GL := runF 3 b_greatest_pairs
theorem ok_greatest_pairs {P : Program} {K : PySem.W.Frag} {mg : Str → Option Value} {base : Heap} {g : Ev.Gl} (W : Wd K mg g) : ∀ k, 4 ≤ k → FnOk P g.w K mg base (L2.CX P g.w) k (g.fa 20) (g.fd 20) ["pattern"] (spA g 1 f_greatest_pairs)
  | 0, h => absurd h (by decide)
  | k + 1, h => ok_fn (N := ["pattern", "column", "row"]) (ps := ["pattern"]) (body := b_greatest_pairs) W.d_greatest_pairs.F sc_greatest_pairs fun cdv A outer s H E hr => by
    unfold b_greatest_pairs
    exact (ess_one (es_ret (ee_call W.d_set_of (ok_set_of W k (by omega)) hr rfl (at_of (takes_of rfl rfl rfl rfl)) (ea_cons (ee_L (el_lc (own := [("column", 1), ("row", 2)]) (t := .tp [.nm 1, .nm 2]) 3000 rfl sc_greatest_pairs.nd (ei_dpairs rfl (ee_call W.d_pairs_grown (ok_pairs_grown W k (by omega)) hr rfl (at_of (takes_of rfl rfl rfl rfl)) (ea_cons (ee_call W.d_adjoined (ok_adjoined W k (by omega)) hr rfl (at_of (takes_of rfl rfl rfl rfl)) (ea_cons (ee_var (i := 0) rfl (by first | exact .inl rfl | exact .inr (.inl rfl) | exact .inr (.inr rfl)) (by decide) (by decide)) ea_nil rfl)) (ea_cons (ee_tup ea_nil) ea_nil rfl) rfl))) (blkOk_by (by kernel_rfl)) (by decide) (fun s H C cl fp => ⟨(eg_tup rfl (eg_cons (eg_nm (i := 1) sc_greatest_pairs.nd rfl (by first | exact .inl rfl | exact .inr rfl) (by first | exact .inl rfl | exact .inr rfl)) (eg_cons (eg_nm (i := 2) sc_greatest_pairs.nd rfl (by first | exact .inl rfl | exact .inr rfl) (by first | exact .inl rfl | exact .inr rfl)) eg_nil))), et_yes, (ee_tup (ea_cons (ee_var (i := 2) rfl (by first | exact .inl rfl | exact .inr (.inl rfl) | exact .inr (.inr rfl)) (by decide) (by decide)) (ea_cons (ee_var (i := 1) rfl (by first | exact .inl rfl | exact .inr (.inl rfl) | exact .inr (.inr rfl)) (by decide) (by decide)) ea_nil rfl) rfl))⟩))) ea_nil rfl))))
theorem sc_rank_paper : FnScope ["pattern", "own"] ["pattern"] (defScope s_rank_paper) := ⟨rfl, rfl, rfl, by decide +kernel, rfl, by decide +kernel, by decide +kernel⟩
def b_rank_paper : FS := fSeq (fSet 1 (fCallU 1 (f_sure_pattern) (fCons (fVar 0) (fNil)))) (fRet (fTup (fCons (fCallU 1 (f_greatest_pairs) (fCons (fVar 1) (fNil))) (fCons (fCallU 1 (f_cover_in) (fCons (fVar 1) (fNil))) (fNil)))))
def f_rank_paper : GL := runF 2 b_rank_paper
theorem ok_rank_paper {P : Program} {K : PySem.W.Frag} {mg : Str → Option Value} {base : Heap} {g : Ev.Gl} (W : Wd K mg g) : ∀ k, 15 ≤ k → FnOk P g.w K mg base (L2.CX P g.w) k (g.fa 23) (g.fd 23) ["pattern"] (spA g 1 f_rank_paper)
  | 0, h => absurd h (by decide)
  | k + 1, h => ok_fn (N := ["pattern", "own"]) (ps := ["pattern"]) (body := b_rank_paper) W.d_rank_paper.F sc_rank_paper fun cdv A outer s H E hr => by
    unfold b_rank_paper
    exact (ess_cons (es_set (i := 1) sc_rank_paper.nd rfl (by first | exact .inl rfl | exact .inr rfl) (ee_call W.d_sure_pattern (ok_sure_pattern W k (by omega)) hr rfl (at_of (takes_of rfl rfl rfl rfl)) (ea_cons (ee_var (i := 0) rfl (by first | exact .inl rfl | exact .inr (.inl rfl) | exact .inr (.inr rfl)) (by decide) (by decide)) ea_nil rfl)) rfl (by first | exact .inl rfl | exact .inr rfl)) (ess_one (es_ret (ee_tup (ea_cons (ee_call W.d_greatest_pairs (ok_greatest_pairs W k (by omega)) hr rfl (at_of (takes_of rfl rfl rfl rfl)) (ea_cons (ee_var (i := 1) rfl (by first | exact .inl rfl | exact .inr (.inl rfl) | exact .inr (.inr rfl)) (by decide) (by decide)) ea_nil rfl)) (ea_cons (ee_call W.d_cover_in (ok_cover_in W k (by omega)) hr rfl (at_of (takes_of rfl rfl rfl rfl)) (ea_cons (ee_var (i := 1) rfl (by first | exact .inl rfl | exact .inr (.inl rfl) | exact .inr (.inr rfl)) (by decide) (by decide)) ea_nil rfl)) ea_nil rfl) rfl)))))
theorem sc_whole_table : FnScope ["pattern", "own", "pairs", "much", "rows", "number", "row", "line", "column", "mark", "its"] ["pattern"] (defScope s_whole_table) := ⟨rfl, rfl, rfl, by decide +kernel, rfl, by decide +kernel, by decide +kernel⟩
def b_whole_table : FS := fSeq (fSet 1 (fCallU 1 (f_sure_pattern) (fCons (fVar 0) (fNil)))) (fSeq (fSet 2 (fCallU 1 (f_greatest_pairs) (fCons (fVar 1) (fNil)))) (fSeq (fAsg (.tp [.nm 3, .nm 4]) (fTup (fCons (f2 gAdd (fCon (.int 1)) (fCall cFac (fCons (fCall cLenD (fCons (fVar 2) (fNil))) (fNil)))) (fCons (fLst (fNil)) (fNil))))) (fSeq (fFor (iEnumA (fCons (f2 gIxD (fVar 1) (fCon (.int 1))) (fNil))) (.tp [.nm 5, .nm 6]) (fSeq (fSet 7 (eOfL (fLc (iRng1A (fCons (f2 gIxD (fVar 1) (fCon (.int 0))) (fNil))) (.nm 8) (fYes) (fIf (t2 (cInE false) (fTup (fCons (fVar 5) (fCons (fVar 8) (fNil)))) (fVar 2)) (fVar 3) (fCon (.int 1))) [8] 3000))) (fDrop (fMet mAppend (fVar 4) (fCons (fCallL lTup (fLc (iZipA2 (fCons (fVar 6) (fCons (fVar 7) (fNil)))) (.tp [.nm 9, .nm 10]) (fYes) (fIf (t2 (cEq false) (fVar 9) (fCon (.int 0))) (fCon (.int 0)) (fVar 10)) [9, 10] 3000)) (fNil))))) 3000) (fRet (fTup (fCons (f2 gIxD (fVar 1) (fCon (.int 0))) (fCons (fCall (byRef lTup cTup) (fCons (fVar 4) (fNil))) (fNil))))))))
def f_whole_table : GL := runF 11 b_whole_table
theorem ok_whole_table {P : Program} {K : PySem.W.Frag} {mg : Str → Option Value} {base : Heap} {g : Ev.Gl} (W : Wd K mg g) : ∀ k, 15 ≤ k → FnOk P g.w K mg base (L2.CX P g.w) k (g.fa 40) (g.fd 40) ["pattern"] (spA g 1 f_whole_table)
  | 0, h => absurd h (by decide)
  | k + 1, h => ok_fn (N := ["pattern", "own", "pairs", "much", "rows", "number", "row", "line", "column", "mark", "its"]) (ps := ["pattern"]) (body := b_whole_table) W.d_whole_table.F sc_whole_table fun cdv A outer s H E hr => by
    unfold b_whole_table
    exact (ess_cons (es_set (i := 1) sc_whole_table.nd rfl (by first | exact .inl rfl | exact .inr rfl) (ee_call W.d_sure_pattern (ok_sure_pattern W k (by omega)) hr rfl (at_of (takes_of rfl rfl rfl rfl)) (ea_cons (ee_var (i := 0) rfl (by first | exact .inl rfl | exact .inr (.inl rfl) | exact .inr (.inr rfl)) (by decide) (by decide)) ea_nil rfl)) rfl (by first | exact .inl rfl | exact .inr rfl)) (ess_cons (es_set (i := 2) sc_whole_table.nd rfl (by first | exact .inl rfl | exact .inr rfl) (ee_call W.d_greatest_pairs (ok_greatest_pairs W k (by omega)) hr rfl (at_of (takes_of rfl rfl rfl rfl)) (ea_cons (ee_var (i := 1) rfl (by first | exact .inl rfl | exact .inr (.inl rfl) | exact .inr (.inr rfl)) (by decide) (by decide)) ea_nil rfl)) rfl (by first | exact .inl rfl | exact .inr rfl)) (ess_cons (es_asg (ee_tup (ea_cons (ee_op or_add bo_add ee_int (ee_callG cr_fac co_fac rfl W.g_factorial (ea_cons (ee_callB cr_lend (co_lend rfl) rfl W.n_len PySem.boot_len (ea_cons (ee_var (i := 2) rfl (by first | exact .inl rfl | exact .inr (.inl rfl) | exact .inr (.inr rfl)) (by decide) (by decide)) ea_nil rfl)) ea_nil rfl))) (ea_cons (ee_lst ea_nil) ea_nil rfl) rfl)) (eg_tup rfl (eg_cons (eg_nm (i := 3) sc_whole_table.nd rfl (by first | exact .inl rfl | exact .inr rfl) (by first | exact .inl rfl | exact .inr rfl)) (eg_cons (eg_nm (i := 4) sc_whole_table.nd rfl (by first | exact .inl rfl | exact .inr rfl) (by first | exact .inl rfl | exact .inr rfl)) eg_nil)))) (ess_cons (es_for 3000 (passes_of rfl) rfl (ei_enum rfl W.n_enumerate (ea_cons (ee_ixd rfl (room_d hr) (ee_var (i := 1) rfl (by first | exact .inl rfl | exact .inr (.inl rfl) | exact .inr (.inr rfl)) (by decide) (by decide)) ee_int (fun _ _ => rfl)) ea_nil rfl)) (eg_tup rfl (eg_cons (eg_nm (i := 5) sc_whole_table.nd rfl (by first | exact .inl rfl | exact .inr rfl) (by first | exact .inl rfl | exact .inr rfl)) (eg_cons (eg_nm (i := 6) sc_whole_table.nd rfl (by first | exact .inl rfl | exact .inr rfl) (by first | exact .inl rfl | exact .inr rfl)) eg_nil))) (ess_cons (es_setLc (i := 7) (own := [("column", 8)]) (t := .nm 8) 3000 rfl sc_whole_table.nd rfl rfl rfl (ei_rng1 rfl W.n_range (ea_cons (ee_ixd rfl (room_d hr) (ee_var (i := 1) rfl (by first | exact .inl rfl | exact .inr (.inl rfl) | exact .inr (.inr rfl)) (by decide) (by decide)) ee_int (fun _ _ => rfl)) ea_nil rfl)) (blkOk_by (by kernel_rfl)) (by decide) (fun s H C cl fp => ⟨(eg_nm (i := 8) sc_whole_table.nd rfl (by first | exact .inl rfl | exact .inr rfl) (by first | exact .inl rfl | exact .inr rfl)), et_yes, (ee_if (et_cmp (or_inE (room_in hr)) (co_inT rfl) (ee_tup (ea_cons (ee_var (i := 5) rfl (by first | exact .inl rfl | exact .inr (.inl rfl) | exact .inr (.inr rfl)) (by decide) (by decide)) (ea_cons (ee_var (i := 8) rfl (by first | exact .inl rfl | exact .inr (.inl rfl) | exact .inr (.inr rfl)) (by decide) (by decide)) ea_nil rfl) rfl)) (ee_var (i := 2) rfl (by first | exact .inl rfl | exact .inr (.inl rfl) | exact .inr (.inr rfl)) (by decide) (by decide)) rfl) (ee_var (i := 3) rfl (by first | exact .inl rfl | exact .inr (.inl rfl) | exact .inr (.inr rfl)) (by decide) (by decide)) ee_int)⟩)) (ess_one (es_expr (ee_met PySem.F.slot_list_append PySem.F.type_list_append mt_append mo_append (ee_var (i := 4) rfl (by first | exact .inl rfl | exact .inr (.inl rfl) | exact .inr (.inr rfl)) (by decide) (by decide)) (ea_cons (ee_callTyL call_tuple_of lo_tup rfl W.n_tuple boot_tuple (el_lc (own := [("mark", 9), ("its", 10)]) (t := .tp [.nm 9, .nm 10]) 3000 rfl sc_whole_table.nd (ei_zip rfl W.n_zip (ea_cons (ee_var (i := 6) rfl (by first | exact .inl rfl | exact .inr (.inl rfl) | exact .inr (.inr rfl)) (by decide) (by decide)) (ea_cons (ee_var (i := 7) rfl (by first | exact .inl rfl | exact .inr (.inl rfl) | exact .inr (.inr rfl)) (by decide) (by decide)) ea_nil rfl) rfl)) (blkOk_by (by kernel_rfl)) (by decide) (fun s H C cl fp => ⟨(eg_tup rfl (eg_cons (eg_nm (i := 9) sc_whole_table.nd rfl (by first | exact .inl rfl | exact .inr rfl) (by first | exact .inl rfl | exact .inr rfl)) (eg_cons (eg_nm (i := 10) sc_whole_table.nd rfl (by first | exact .inl rfl | exact .inr rfl) (by first | exact .inl rfl | exact .inr rfl)) eg_nil))), et_yes, (ee_if (et_cmp (op_eqD (room_eq hr)) co_eq (ee_var (i := 9) rfl (by first | exact .inl rfl | exact .inr (.inl rfl) | exact .inr (.inr rfl)) (by decide) (by decide)) (ee_gint rfl W.c_NOUGHT) rfl) ee_int (ee_var (i := 10) rfl (by first | exact .inl rfl | exact .inr (.inl rfl) | exact .inr (.inr rfl)) (by decide) (by decide)))⟩)) rfl) ea_nil rfl)))))) (ess_one (es_ret (ee_tup (ea_cons (ee_ixd rfl (room_d hr) (ee_var (i := 1) rfl (by first | exact .inl rfl | exact .inr (.inl rfl) | exact .inr (.inr rfl)) (by decide) (by decide)) ee_int (fun _ _ => rfl)) (ea_cons (ee_callTy cr_tup co_tup rfl W.n_tuple boot_tuple (ea_cons (ee_var (i := 4) rfl (by first | exact .inl rfl | exact .inr (.inl rfl) | exact .inr (.inr rfl)) (by decide) (by decide)) ea_nil rfl)) ea_nil rfl) rfl))))))))
theorem sc__law_refused : FnScope ["door", "one", "told_so"] ["door"] (defScope s__law_refused) := ⟨rfl, rfl, rfl, by decide +kernel, rfl, by decide +kernel, by decide +kernel⟩
def b__law_refused : FS := fSeq (fSet 1 (fTup (fCons (fCon (.int 2)) (fCons (fTup (fCons (fTup (fCons (fCon (.int 1)) (fCons (fCon (.int 2)) (fNil)))) (fCons (fTup (fCons (fCon (.int 0)) (fCons (fCon (.int 1)) (fNil)))) (fNil)))) (fNil))))) (fSeq (fTryAs 2 2 sub_Unfit (fRet (fIsE 2 (isE_ValueError))) (fIfS (t2 (cEq false) (fVar 0) (fCon (.int 0))) (fDrop (fCallU 1 (f_most_rank) (fCons (fTup (fCons (fCon (.int 1)) (fCons (fTup (fCons (fTup (fCons (fCon (.int 4)) (fNil))) (fNil))) (fNil)))) (fNil)))) (fIfS (t2 (cEq false) (fVar 0) (fCon (.int 1))) (fDrop (fCallU 1 (f_rank_paper) (fCons (fCon .non) (fNil)))) (fIfS (t2 (cEq false) (fVar 0) (fCon (.int 2))) (fDrop (fCallU 2 (f_is_rank_paper) (fCons (fTup (fCons (fCon (.int 1)) (fCons (fTup (fCons (fTup (fCons (fNeg (fCon (.int 1))) (fNil))) (fNil))) (fNil)))) (fCons (fTup (fNil)) (fNil))))) (fIfS (t2 (cEq false) (fVar 0) (fCon (.int 3))) (fDrop (fCallU 1 (f_matching) (fCons (fTup (fCons (fCon (.int 1)) (fCons (fTup (fCons (fCon (.int 1)) (fNil))) (fNil)))) (fNil)))) (fIfS (t2 (cEq false) (fVar 0) (fCon (.int 4))) (fDrop (fCallU 2 (f_is_matching) (fCons (fCon (.int 3)) (fCons (fTup (fNil)) (fNil))))) (fIfS (t2 (cEq false) (fVar 0) (fCon (.int 5))) (fDrop (fCallU 2 (f_is_greatest) (fCons (fTup (fCons (fCon (.int 1)) (fCons (fTup (fCons (fTup (fCons (fCon (.int 1)) (fCons (fCon (.int 1)) (fNil)))) (fNil))) (fNil)))) (fCons (fTup (fNil)) (fNil))))) (fIfS (t2 (cEq false) (fVar 0) (fCon (.int 6))) (fDrop (fCallU 1 (f_matchings_many) (fCons (fCon (.str "a")) (fNil)))) (fIfS (t2 (cEq false) (fVar 0) (fCon (.int 7))) (fDrop (fCallU 1 (f_cover) (fCons (fTup (fCons (fCon (.bl true)) (fCons (fTup (fNil)) (fNil)))) (fNil)))) (fIfS (t2 (cEq false) (fVar 0) (fCon (.int 8))) (fDrop (fCallU 2 (f_is_cover) (fCons (fTup (fCons (fCon (.int 0)) (fCons (fTup (fCons (fTup (fCons (fCon (.int 1)) (fNil))) (fNil))) (fNil)))) (fCons (fTup (fCons (fTup (fNil)) (fCons (fTup (fNil)) (fNil)))) (fNil))))) (fIfS (t2 (cEq false) (fVar 0) (fCon (.int 9))) (fDrop (fCallU 2 (f_longer_way) (fCons (fVar 1) (fCons (fTup (fCons (fTup (fCons (fCon (.int 1)) (fCons (fCon (.int 0)) (fNil)))) (fNil))) (fNil))))) (fIfS (t2 (cEq false) (fVar 0) (fCon (.int 10))) (fDrop (fCallU 2 (f_longer_way) (fCons (fVar 1) (fCons (fTup (fCons (fTup (fCons (fCon (.int 0)) (fCons (fCon (.int 0)) (fNil)))) (fCons (fTup (fCons (fCon (.int 0)) (fCons (fCon (.int 1)) (fNil)))) (fNil)))) (fNil))))) (fIfS (t2 (cEq false) (fVar 0) (fCon (.int 11))) (fDrop (fCallU 2 (f_longer_way) (fCons (fVar 1) (fCons (fTup (fCons (fTup (fCons (fCon (.int 0)) (fCons (fCon (.int 1)) (fNil)))) (fCons (fTup (fCons (fCon (.int 0)) (fCons (fCon (.int 0)) (fNil)))) (fNil)))) (fNil))))) (fIfS (t2 (cEq false) (fVar 0) (fCon (.int 12))) (fDrop (fCallU 3 (f_is_longer_way) (fCons (fVar 1) (fCons (fTup (fCons (fTup (fCons (fCon (.int 2)) (fCons (fCon (.int 0)) (fNil)))) (fNil))) (fCons (fTup (fNil)) (fNil)))))) (fIfS (t2 (cEq false) (fVar 0) (fCon (.int 13))) (fDrop (fCallU 2 (f_is_narrow) (fCons (fVar 1) (fCons (fTup (fCons (fCon (.int 1)) (fCons (fCon (.int 0)) (fNil)))) (fNil))))) (fIfS (t2 (cEq false) (fVar 0) (fCon (.int 14))) (fDrop (fCallU 2 (f_is_narrow) (fCons (fVar 1) (fCons (fTup (fCons (fCon (.int 2)) (fNil))) (fNil))))) (fIfS (t2 (cEq false) (fVar 0) (fCon (.int 15))) (fDrop (fCallU 1 (f_narrow_rows) (fCons (fTup (fCons (fCon (.int 1)) (fCons (fTup (fCons (fTup (fCons (fCon (.bl true)) (fNil))) (fNil))) (fNil)))) (fNil)))) (fIfS (t2 (cEq false) (fVar 0) (fCon (.int 16))) (fDrop (fCallU 1 (f_whole_table) (fCons (fTup (fCons (fTup (fNil)) (fCons (fTup (fNil)) (fNil)))) (fNil)))) (fDrop (fCallU 2 (f_is_whole_table) (fCons (fTup (fCons (fCon (.int 1)) (fCons (fTup (fCons (fTup (fCons (fCon .non) (fNil))) (fNil))) (fNil)))) (fCons (fVar 1) (fNil))))))))))))))))))))))) (fRet (fCon (.bl false))))
def f__law_refused : GL := runF 3 b__law_refused
theorem ok__law_refused {P : Program} {K : PySem.W.Frag} {mg : Str → Option Value} {base : Heap} {g : Ev.Gl} (W : Wd K mg g) : ∀ k, 16 ≤ k → FnOk P g.w K mg base (L2.CX P g.w) k (g.fa 44) (g.fd 44) ["door"] (spA g 1 f__law_refused)
  | 0, h => absurd h (by decide)
  | k + 1, h => ok_fn (N := ["door", "one", "told_so"]) (ps := ["door"]) (body := b__law_refused) W.d__law_refused.F sc__law_refused fun cdv A outer s H E hr => by
    unfold b__law_refused
    exact (ess_cons (es_set (i := 1) sc__law_refused.nd rfl (by first | exact .inl rfl | exact .inr rfl) (ee_tup (ea_cons ee_int (ea_cons (ee_tup (ea_cons (ee_tup (ea_cons ee_int (ea_cons ee_int ea_nil rfl) rfl)) (ea_cons (ee_tup (ea_cons ee_int (ea_cons ee_int ea_nil rfl) rfl)) ea_nil rfl) rfl)) ea_nil rfl) rfl)) rfl (by first | exact .inl rfl | exact .inr rfl)) (ess_cons (es_tryAs (i := 2) (jc := 1) rfl rfl sc__law_refused.nd rfl rfl ⟨rfl, by decide, .inl W.e_Unfit.m⟩ (takes_of rfl rfl rfl rfl) W.x_Unfit (fun WW pn xe tk hp => (ess_one (es_if (et_cmp (op_eqD (room_eq hr)) co_eq (ee_var (i := 0) rfl (by first | exact .inl rfl | exact .inr (.inl rfl) | exact .inr (.inr rfl)) (by decide) (by decide)) ee_int rfl) (ess_one (es_expr (ee_call W.d_most_rank (ok_most_rank W k (by omega)) hr rfl (at_of tk) (ea_cons (ee_tup (ea_cons ee_int (ea_cons (ee_tup (ea_cons (ee_tup (ea_cons ee_int ea_nil rfl)) ea_nil rfl)) ea_nil rfl) rfl)) ea_nil rfl)))) (ess_one (es_if (et_cmp (op_eqD (room_eq hr)) co_eq (ee_var (i := 0) rfl (by first | exact .inl rfl | exact .inr (.inl rfl) | exact .inr (.inr rfl)) (by decide) (by decide)) ee_int rfl) (ess_one (es_expr (ee_call W.d_rank_paper (ok_rank_paper W k (by omega)) hr rfl (at_of tk) (ea_cons ee_non ea_nil rfl)))) (ess_one (es_if (et_cmp (op_eqD (room_eq hr)) co_eq (ee_var (i := 0) rfl (by first | exact .inl rfl | exact .inr (.inl rfl) | exact .inr (.inr rfl)) (by decide) (by decide)) ee_int rfl) (ess_one (es_expr (ee_call W.d_is_rank_paper (ok_is_rank_paper W k (by omega)) hr rfl (at_of tk) (ea_cons (ee_tup (ea_cons ee_int (ea_cons (ee_tup (ea_cons (ee_tup (ea_cons (ee_neg ee_int) ea_nil rfl)) ea_nil rfl)) ea_nil rfl) rfl)) (ea_cons (ee_tup ea_nil) ea_nil rfl) rfl)))) (ess_one (es_if (et_cmp (op_eqD (room_eq hr)) co_eq (ee_var (i := 0) rfl (by first | exact .inl rfl | exact .inr (.inl rfl) | exact .inr (.inr rfl)) (by decide) (by decide)) ee_int rfl) (ess_one (es_expr (ee_call W.d_matching (ok_matching W k (by omega)) hr rfl (at_of tk) (ea_cons (ee_tup (ea_cons ee_int (ea_cons (ee_tup (ea_cons ee_int ea_nil rfl)) ea_nil rfl) rfl)) ea_nil rfl)))) (ess_one (es_if (et_cmp (op_eqD (room_eq hr)) co_eq (ee_var (i := 0) rfl (by first | exact .inl rfl | exact .inr (.inl rfl) | exact .inr (.inr rfl)) (by decide) (by decide)) ee_int rfl) (ess_one (es_expr (ee_call W.d_is_matching (ok_is_matching W k (by omega)) hr rfl (at_of tk) (ea_cons ee_int (ea_cons (ee_tup ea_nil) ea_nil rfl) rfl)))) (ess_one (es_if (et_cmp (op_eqD (room_eq hr)) co_eq (ee_var (i := 0) rfl (by first | exact .inl rfl | exact .inr (.inl rfl) | exact .inr (.inr rfl)) (by decide) (by decide)) ee_int rfl) (ess_one (es_expr (ee_call W.d_is_greatest (ok_is_greatest W k (by omega)) hr rfl (at_of tk) (ea_cons (ee_tup (ea_cons ee_int (ea_cons (ee_tup (ea_cons (ee_tup (ea_cons ee_int (ea_cons ee_int ea_nil rfl) rfl)) ea_nil rfl)) ea_nil rfl) rfl)) (ea_cons (ee_tup ea_nil) ea_nil rfl) rfl)))) (ess_one (es_if (et_cmp (op_eqD (room_eq hr)) co_eq (ee_var (i := 0) rfl (by first | exact .inl rfl | exact .inr (.inl rfl) | exact .inr (.inr rfl)) (by decide) (by decide)) ee_int rfl) (ess_one (es_expr (ee_call W.d_matchings_many (ok_matchings_many W k (by omega)) hr rfl (at_of tk) (ea_cons ee_str ea_nil rfl)))) (ess_one (es_if (et_cmp (op_eqD (room_eq hr)) co_eq (ee_var (i := 0) rfl (by first | exact .inl rfl | exact .inr (.inl rfl) | exact .inr (.inr rfl)) (by decide) (by decide)) ee_int rfl) (ess_one (es_expr (ee_call W.d_cover (ok_cover W k (by omega)) hr rfl (at_of tk) (ea_cons (ee_tup (ea_cons ee_bl (ea_cons (ee_tup ea_nil) ea_nil rfl) rfl)) ea_nil rfl)))) (ess_one (es_if (et_cmp (op_eqD (room_eq hr)) co_eq (ee_var (i := 0) rfl (by first | exact .inl rfl | exact .inr (.inl rfl) | exact .inr (.inr rfl)) (by decide) (by decide)) ee_int rfl) (ess_one (es_expr (ee_call W.d_is_cover (ok_is_cover W k (by omega)) hr rfl (at_of tk) (ea_cons (ee_tup (ea_cons ee_int (ea_cons (ee_tup (ea_cons (ee_tup (ea_cons ee_int ea_nil rfl)) ea_nil rfl)) ea_nil rfl) rfl)) (ea_cons (ee_tup (ea_cons (ee_tup ea_nil) (ea_cons (ee_tup ea_nil) ea_nil rfl) rfl)) ea_nil rfl) rfl)))) (ess_one (es_if (et_cmp (op_eqD (room_eq hr)) co_eq (ee_var (i := 0) rfl (by first | exact .inl rfl | exact .inr (.inl rfl) | exact .inr (.inr rfl)) (by decide) (by decide)) ee_int rfl) (ess_one (es_expr (ee_call W.d_longer_way (ok_longer_way W k (by omega)) hr rfl (at_of tk) (ea_cons (ee_var (i := 1) rfl (by first | exact .inl rfl | exact .inr (.inl rfl) | exact .inr (.inr rfl)) (by decide) (by decide)) (ea_cons (ee_tup (ea_cons (ee_tup (ea_cons ee_int (ea_cons ee_int ea_nil rfl) rfl)) ea_nil rfl)) ea_nil rfl) rfl)))) (ess_one (es_if (et_cmp (op_eqD (room_eq hr)) co_eq (ee_var (i := 0) rfl (by first | exact .inl rfl | exact .inr (.inl rfl) | exact .inr (.inr rfl)) (by decide) (by decide)) ee_int rfl) (ess_one (es_expr (ee_call W.d_longer_way (ok_longer_way W k (by omega)) hr rfl (at_of tk) (ea_cons (ee_var (i := 1) rfl (by first | exact .inl rfl | exact .inr (.inl rfl) | exact .inr (.inr rfl)) (by decide) (by decide)) (ea_cons (ee_tup (ea_cons (ee_tup (ea_cons ee_int (ea_cons ee_int ea_nil rfl) rfl)) (ea_cons (ee_tup (ea_cons ee_int (ea_cons ee_int ea_nil rfl) rfl)) ea_nil rfl) rfl)) ea_nil rfl) rfl)))) (ess_one (es_if (et_cmp (op_eqD (room_eq hr)) co_eq (ee_var (i := 0) rfl (by first | exact .inl rfl | exact .inr (.inl rfl) | exact .inr (.inr rfl)) (by decide) (by decide)) ee_int rfl) (ess_one (es_expr (ee_call W.d_longer_way (ok_longer_way W k (by omega)) hr rfl (at_of tk) (ea_cons (ee_var (i := 1) rfl (by first | exact .inl rfl | exact .inr (.inl rfl) | exact .inr (.inr rfl)) (by decide) (by decide)) (ea_cons (ee_tup (ea_cons (ee_tup (ea_cons ee_int (ea_cons ee_int ea_nil rfl) rfl)) (ea_cons (ee_tup (ea_cons ee_int (ea_cons ee_int ea_nil rfl) rfl)) ea_nil rfl) rfl)) ea_nil rfl) rfl)))) (ess_one (es_if (et_cmp (op_eqD (room_eq hr)) co_eq (ee_var (i := 0) rfl (by first | exact .inl rfl | exact .inr (.inl rfl) | exact .inr (.inr rfl)) (by decide) (by decide)) ee_int rfl) (ess_one (es_expr (ee_call W.d_is_longer_way (ok_is_longer_way W k (by omega)) hr rfl (at_of tk) (ea_cons (ee_var (i := 1) rfl (by first | exact .inl rfl | exact .inr (.inl rfl) | exact .inr (.inr rfl)) (by decide) (by decide)) (ea_cons (ee_tup (ea_cons (ee_tup (ea_cons ee_int (ea_cons ee_int ea_nil rfl) rfl)) ea_nil rfl)) (ea_cons (ee_tup ea_nil) ea_nil rfl) rfl) rfl)))) (ess_one (es_if (et_cmp (op_eqD (room_eq hr)) co_eq (ee_var (i := 0) rfl (by first | exact .inl rfl | exact .inr (.inl rfl) | exact .inr (.inr rfl)) (by decide) (by decide)) ee_int rfl) (ess_one (es_expr (ee_call W.d_is_narrow (ok_is_narrow W k (by omega)) hr rfl (at_of tk) (ea_cons (ee_var (i := 1) rfl (by first | exact .inl rfl | exact .inr (.inl rfl) | exact .inr (.inr rfl)) (by decide) (by decide)) (ea_cons (ee_tup (ea_cons ee_int (ea_cons ee_int ea_nil rfl) rfl)) ea_nil rfl) rfl)))) (ess_one (es_if (et_cmp (op_eqD (room_eq hr)) co_eq (ee_var (i := 0) rfl (by first | exact .inl rfl | exact .inr (.inl rfl) | exact .inr (.inr rfl)) (by decide) (by decide)) ee_int rfl) (ess_one (es_expr (ee_call W.d_is_narrow (ok_is_narrow W k (by omega)) hr rfl (at_of tk) (ea_cons (ee_var (i := 1) rfl (by first | exact .inl rfl | exact .inr (.inl rfl) | exact .inr (.inr rfl)) (by decide) (by decide)) (ea_cons (ee_tup (ea_cons ee_int ea_nil rfl)) ea_nil rfl) rfl)))) (ess_one (es_if (et_cmp (op_eqD (room_eq hr)) co_eq (ee_var (i := 0) rfl (by first | exact .inl rfl | exact .inr (.inl rfl) | exact .inr (.inr rfl)) (by decide) (by decide)) ee_int rfl) (ess_one (es_expr (ee_call W.d_narrow_rows (ok_narrow_rows W k (by omega)) hr rfl (at_of tk) (ea_cons (ee_tup (ea_cons ee_int (ea_cons (ee_tup (ea_cons (ee_tup (ea_cons ee_bl ea_nil rfl)) ea_nil rfl)) ea_nil rfl) rfl)) ea_nil rfl)))) (ess_one (es_if (et_cmp (op_eqD (room_eq hr)) co_eq (ee_var (i := 0) rfl (by first | exact .inl rfl | exact .inr (.inl rfl) | exact .inr (.inr rfl)) (by decide) (by decide)) ee_int rfl) (ess_one (es_expr (ee_call W.d_whole_table (ok_whole_table W k (by omega)) hr rfl (at_of tk) (ea_cons (ee_tup (ea_cons (ee_tup ea_nil) (ea_cons (ee_tup ea_nil) ea_nil rfl) rfl)) ea_nil rfl)))) (ess_one (es_expr (ee_call W.d_is_whole_table (ok_is_whole_table W k (by omega)) hr rfl (at_of tk) (ea_cons (ee_tup (ea_cons ee_int (ea_cons (ee_tup (ea_cons (ee_tup (ea_cons ee_non ea_nil rfl)) ea_nil rfl)) ea_nil rfl) rfl)) (ea_cons (ee_var (i := 1) rfl (by first | exact .inl rfl | exact .inr (.inl rfl) | exact .inr (.inr rfl)) (by decide) (by decide)) ea_nil rfl) rfl))))))))))))))))))))))))))))))))))))))) (fun a oe j pn hj hz hfd => (ess_one (es_ret (ee_isE hz hfd (W.xc j hj) (W.xk_ValueError j hj) rfl W.n_isinstance (i := 2) rfl (by first | exact .inl rfl | exact .inr (.inl rfl) | exact .inr (.inr rfl)) rfl W.n_ValueError bt_ValueError))))) (ess_one (es_ret ee_bl))))
theorem sc__law_same : FnScope ["got", "due", "mine", "its"] ["got", "due"] (defScope s__law_same) := ⟨rfl, rfl, rfl, by decide +kernel, rfl, by decide +kernel, by decide +kernel⟩
def b__law_same (C : GL) : FS := fSeq (fIfS (tOfE (fCall cIsi (fCons (fVar 1) (fCons (fTup (fCons (fCon (.ty .list)) (fCons (fCon (.ty .tuple)) (fNil)))) (fNil))))) (fSeq (fIfS (tOrA (t2 (cEq true) (fCall cIsi (fCons (fVar 0) (fCons (fCon (.ty .list)) (fNil)))) (fCall cIsi (fCons (fVar 1) (fCons (fCon (.ty .list)) (fNil))))) (t2 (cEq true) (fCall cIsi (fCons (fVar 0) (fCons (fCon (.ty .tuple)) (fNil)))) (fCall cIsi (fCons (fVar 1) (fCons (fCon (.ty .tuple)) (fNil)))))) (fRet (fCon (.bl false))) (fNext)) (fRet (fAnd (eOfT (t2 (cEq false) (fCall cLenD (fCons (fVar 0) (fNil))) (fCall cLenD (fCons (fVar 1) (fNil))))) (fCallL lAll (fLcX (iZipA2 (fCons (fVar 0) (fCons (fVar 1) (fNil)))) (.tp [.nm 2, .nm 3]) (fYes) (fCallU 2 C (fCons (fVar 2) (fCons (fVar 3) (fNil)))) [2, 3] 3000))))) (fNext)) (fSeq (fIfS (tOrA (t2 (cIs false) (fVar 1) (fCon .non)) (tOfE (fCall cIsi (fCons (fVar 1) (fCons (fTup (fCons (fCon (.ty .bool)) (fCons (fCon (.ty .str)) (fNil)))) (fNil)))))) (fRet (fAnd (eOfT (t2 (cEq false) (fVar 0) (fVar 1))) (fAnd (eOfT (t2 (cEq false) (fCall cIsi (fCons (fVar 0) (fCons (fCon (.ty .bool)) (fNil)))) (fCall cIsi (fCons (fVar 1) (fCons (fCon (.ty .bool)) (fNil)))))) (eOfT (t2 (cEq false) (eOfT (t2 (cIs false) (fVar 0) (fCon .non))) (eOfT (t2 (cIs false) (fVar 1) (fCon .non)))))))) (fNext)) (fRet (fAnd (fCall cIsi (fCons (fVar 0) (fCons (fCon (.ty .int)) (fNil)))) (fAnd (eOfT (tNotA (tOfE (fCall cIsi (fCons (fVar 0) (fCons (fCon (.ty .bool)) (fNil))))))) (eOfT (t2 (cEq false) (fVar 0) (fVar 1)))))))
def f__law_same : Nat → GL
  | 0 => fun _ _ => .no
  | m + 1 => runF 4 (b__law_same (f__law_same m))
theorem ok__law_same {P : Program} {K : PySem.W.Frag} {mg : Str → Option Value} {base : Heap} {g : Ev.Gl} (W : Wd K mg g) : ∀ m k, m + 0 ≤ k → FnOk P g.w K mg base (L2.CX P g.w) k (g.fa 43) (g.fd 43) ["got", "due"] (spA g 2 (f__law_same m))
  | 0, _, _ => ok_no
  | _ + 1, 0, h => absurd h (by omega)
  | m + 1, k + 1, h => by
    have ih := ok__law_same (P := P) (base := base) W m
    exact ok_fn (N := ["got", "due", "mine", "its"]) (ps := ["got", "due"]) (body := b__law_same (f__law_same m)) W.d__law_same.F sc__law_same fun cdv A outer s H E hr => by
      unfold b__law_same
      exact (ess_cons (es_if (et_truth (ee_callB cr_isi co_isi rfl W.n_isinstance boot_isinstance (ea_cons (ee_var (i := 1) rfl (by first | exact .inl rfl | exact .inr (.inl rfl) | exact .inr (.inr rfl)) (by decide) (by decide)) (ea_cons (ee_tup (ea_cons (ee_ty .list rfl W.n_list boot_list) (ea_cons (ee_ty .tuple rfl W.n_tuple boot_tuple) ea_nil rfl) rfl)) ea_nil rfl) rfl)) (fun _ => rfl)) (ess_cons (es_if (PW.pt (ew_or (et_cmp (op_neD (room_eq hr)) co_ne (ee_callB cr_isi co_isi rfl W.n_isinstance boot_isinstance (ea_cons (ee_var (i := 0) rfl (by first | exact .inl rfl | exact .inr (.inl rfl) | exact .inr (.inr rfl)) (by decide) (by decide)) (ea_cons (ee_ty .list rfl W.n_list boot_list) ea_nil rfl) rfl)) (ee_callB cr_isi co_isi rfl W.n_isinstance boot_isinstance (ea_cons (ee_var (i := 1) rfl (by first | exact .inl rfl | exact .inr (.inl rfl) | exact .inr (.inr rfl)) (by decide) (by decide)) (ea_cons (ee_ty .list rfl W.n_list boot_list) ea_nil rfl) rfl)) rfl) (ew_or1 (et_cmp (op_neD (room_eq hr)) co_ne (ee_callB cr_isi co_isi rfl W.n_isinstance boot_isinstance (ea_cons (ee_var (i := 0) rfl (by first | exact .inl rfl | exact .inr (.inl rfl) | exact .inr (.inr rfl)) (by decide) (by decide)) (ea_cons (ee_ty .tuple rfl W.n_tuple boot_tuple) ea_nil rfl) rfl)) (ee_callB cr_isi co_isi rfl W.n_isinstance boot_isinstance (ea_cons (ee_var (i := 1) rfl (by first | exact .inl rfl | exact .inr (.inl rfl) | exact .inr (.inr rfl)) (by decide) (by decide)) (ea_cons (ee_ty .tuple rfl W.n_tuple boot_tuple) ea_nil rfl) rfl)) rfl)))) (ess_one (es_ret ee_bl)) ess_nil) (ess_one (es_ret (ee_and (ee_cmp (op_eqD (room_eq hr)) co_eq (ee_callB cr_lend (co_lend rfl) rfl W.n_len PySem.boot_len (ea_cons (ee_var (i := 0) rfl (by first | exact .inl rfl | exact .inr (.inl rfl) | exact .inr (.inr rfl)) (by decide) (by decide)) ea_nil rfl)) (ee_callB cr_lend (co_lend rfl) rfl W.n_len PySem.boot_len (ea_cons (ee_var (i := 1) rfl (by first | exact .inl rfl | exact .inr (.inl rfl) | exact .inr (.inr rfl)) (by decide) (by decide)) ea_nil rfl)) rfl) (ee_one (ee_callBL (cr_all rfl) lo_all rfl W.n_all boot_all (el_lcX (own := [("mine", 2), ("its", 3)]) (t := .tp [.nm 2, .nm 3]) 3000 rfl sc__law_same.nd (pas_of (takes_of rfl rfl rfl rfl) rfl rfl) (ei_zip rfl W.n_zip (ea_cons (ee_var (i := 0) rfl (by first | exact .inl rfl | exact .inr (.inl rfl) | exact .inr (.inr rfl)) (by decide) (by decide)) (ea_cons (ee_var (i := 1) rfl (by first | exact .inl rfl | exact .inr (.inl rfl) | exact .inr (.inr rfl)) (by decide) (by decide)) ea_nil rfl) rfl)) (blkOk_by (by kernel_rfl)) (by decide) (fun s H C cl fp xe E pb => ⟨(eg_tup rfl (eg_cons (eg_nm (i := 2) sc__law_same.nd rfl (by first | exact .inl rfl | exact .inr rfl) (by first | exact .inl rfl | exact .inr rfl)) (eg_cons (eg_nm (i := 3) sc__law_same.nd rfl (by first | exact .inl rfl | exact .inr rfl) (by first | exact .inl rfl | exact .inr rfl)) eg_nil))), et_yes, (ee_call W.d__law_same (ih k (by omega)) hr rfl pb.call (ea_cons (ee_var (i := 2) rfl (by first | exact .inl rfl | exact .inr (.inl rfl) | exact .inr (.inr rfl)) (by decide) (by decide)) (ea_cons (ee_var (i := 3) rfl (by first | exact .inl rfl | exact .inr (.inl rfl) | exact .inr (.inr rfl)) (by decide) (by decide)) ea_nil rfl) rfl))⟩)) rfl)))))) ess_nil) (ess_cons (es_if (PW.pt (ew_or (et_cmp or_is co_is (ee_var (i := 1) rfl (by first | exact .inl rfl | exact .inr (.inl rfl) | exact .inr (.inr rfl)) (by decide) (by decide)) ee_non rfl) (ew_or1 (et_truth (ee_callB cr_isi co_isi rfl W.n_isinstance boot_isinstance (ea_cons (ee_var (i := 1) rfl (by first | exact .inl rfl | exact .inr (.inl rfl) | exact .inr (.inr rfl)) (by decide) (by decide)) (ea_cons (ee_tup (ea_cons (ee_ty .bool rfl W.n_bool boot_bool) (ea_cons (ee_ty .str rfl W.n_str boot_str) ea_nil rfl) rfl)) ea_nil rfl) rfl)) (fun _ => rfl))))) (ess_one (es_ret (ee_and (ee_cmp (op_eqD (room_eq hr)) co_eq (ee_var (i := 0) rfl (by first | exact .inl rfl | exact .inr (.inl rfl) | exact .inr (.inr rfl)) (by decide) (by decide)) (ee_var (i := 1) rfl (by first | exact .inl rfl | exact .inr (.inl rfl) | exact .inr (.inr rfl)) (by decide) (by decide)) rfl) (ee_and (ee_cmp (op_eqD (room_eq hr)) co_eq (ee_callB cr_isi co_isi rfl W.n_isinstance boot_isinstance (ea_cons (ee_var (i := 0) rfl (by first | exact .inl rfl | exact .inr (.inl rfl) | exact .inr (.inr rfl)) (by decide) (by decide)) (ea_cons (ee_ty .bool rfl W.n_bool boot_bool) ea_nil rfl) rfl)) (ee_callB cr_isi co_isi rfl W.n_isinstance boot_isinstance (ea_cons (ee_var (i := 1) rfl (by first | exact .inl rfl | exact .inr (.inl rfl) | exact .inr (.inr rfl)) (by decide) (by decide)) (ea_cons (ee_ty .bool rfl W.n_bool boot_bool) ea_nil rfl) rfl)) rfl) (ee_one (ee_cmp (op_eqD (room_eq hr)) co_eq (ee_cmp or_is co_is (ee_var (i := 0) rfl (by first | exact .inl rfl | exact .inr (.inl rfl) | exact .inr (.inr rfl)) (by decide) (by decide)) ee_non rfl) (ee_cmp or_is co_is (ee_var (i := 1) rfl (by first | exact .inl rfl | exact .inr (.inl rfl) | exact .inr (.inr rfl)) (by decide) (by decide)) ee_non rfl) rfl)))))) ess_nil) (ess_one (es_ret (ee_and (ee_callB cr_isi co_isi rfl W.n_isinstance boot_isinstance (ea_cons (ee_var (i := 0) rfl (by first | exact .inl rfl | exact .inr (.inl rfl) | exact .inr (.inr rfl)) (by decide) (by decide)) (ea_cons (ee_ty .int rfl W.n_int boot_int) ea_nil rfl) rfl)) (ee_and (ee_not (ee_callB cr_isi co_isi rfl W.n_isinstance boot_isinstance (ea_cons (ee_var (i := 0) rfl (by first | exact .inl rfl | exact .inr (.inl rfl) | exact .inr (.inr rfl)) (by decide) (by decide)) (ea_cons (ee_ty .bool rfl W.n_bool boot_bool) ea_nil rfl) rfl))) (ee_one (ee_cmp (op_eqD (room_eq hr)) co_eq (ee_var (i := 0) rfl (by first | exact .inl rfl | exact .inr (.inl rfl) | exact .inr (.inr rfl)) (by decide) (by decide)) (ee_var (i := 1) rfl (by first | exact .inl rfl | exact .inr (.inl rfl) | exact .inr (.inr rfl)) (by decide) (by decide)) rfl))))))))
theorem sc_law : FnScope ["script", "arrow", "full", "bare", "got", "due", "things", "papers", "ways", "tables", "pattern", "words", "own", "door"] ["script"] (defScope s_law) := ⟨rfl, rfl, rfl, by decide +kernel, rfl, by decide +kernel, by decide +kernel⟩
def b_law : FS := fSeq (fAsg (.tp [.nm 1, .nm 2, .nm 3]) (fTup (fCons (fTup (fCons (fCon (.int 3)) (fCons (fTup (fCons (fTup (fCons (fCon (.int 1)) (fCons (fCon (.int 1)) (fCons (fCon (.int 0)) (fNil))))) (fCons (fTup (fCons (fCon (.int 0)) (fCons (fCon (.int 1)) (fCons (fCon (.int 0)) (fNil))))) (fCons (fTup (fCons (fCon (.int 0)) (fCons (fCon (.int 2)) (fCons (fCon (.int 0)) (fNil))))) (fNil))))) (fNil)))) (fCons (fTup (fCons (fCon (.int 2)) (fCons (fTup (fCons (fTup (fCons (fCon (.int 2)) (fCons (fCon (.int 1)) (fNil)))) (fCons (fTup (fCons (fCon (.int 1)) (fCons (fCon (.int 2)) (fNil)))) (fNil)))) (fNil)))) (fCons (fTup (fCons (fCon (.int 2)) (fCons (fTup (fCons (fTup (fCons (fCon (.int 0)) (fCons (fCon (.int 0)) (fNil)))) (fCons (fTup (fCons (fCon (.int 0)) (fCons (fCon (.int 0)) (fNil)))) (fNil)))) (fNil)))) (fNil)))))) (fSeq (fSet 4 (fLst (fCons (fCallU 1 (f_most_rank) (fCons (fVar 1) (fNil))) (fCons (fCallU 1 (f_most_rank) (fCons (fVar 2) (fNil))) (fCons (fCallU 1 (f_most_rank) (fCons (fVar 3) (fNil))) (fCons (fCallU 1 (f_most_rank) (fCons (fTup (fCons (fCon (.int 0)) (fCons (fTup (fCons (fTup (fNil)) (fNil))) (fNil)))) (fNil))) (fCons (fCallU 1 (f_most_rank) (fCons (fTup (fCons (fCon (.int 3)) (fCons (fTup (fNil)) (fNil)))) (fNil))) (fCons (fCallU 1 (f_matching) (fCons (fVar 1) (fNil))) (fCons (fCallU 1 (f_matching) (fCons (fVar 2) (fNil))) (fCons (fCallU 1 (f_matching) (fCons (fVar 3) (fNil))) (fCons (fCallU 1 (f_matchings_many) (fCons (fVar 1) (fNil))) (fCons (fCallU 1 (f_matchings_many) (fCons (fVar 2) (fNil))) (fCons (fCallU 1 (f_matchings_many) (fCons (fVar 3) (fNil))) (fCons (fCallU 1 (f_cover) (fCons (fVar 1) (fNil))) (fCons (fCallU 1 (f_cover) (fCons (fVar 2) (fNil))) (fCons (fCallU 1 (f_cover) (fCons (fVar 3) (fNil))) (fNil))))))))))))))))) (fSeq (fSet 5 (fLst (fCons (fCon (.int 2)) (fCons (fCon (.int 2)) (fCons (fCon (.int 0)) (fCons (fCon (.int 0)) (fCons (fCon (.int 0)) (fCons (fTup (fCons (fTup (fCons (fCon (.int 0)) (fCons (fCon (.int 0)) (fNil)))) (fCons (fTup (fCons (fCon (.int 1)) (fCons (fCon (.int 1)) (fNil)))) (fNil)))) (fCons (fTup (fCons (fTup (fCons (fCon (.int 0)) (fCons (fCon (.int 0)) (fNil)))) (fCons (fTup (fCons (fCon (.int 1)) (fCons (fCon (.int 1)) (fNil)))) (fNil)))) (fCons (fTup (fNil)) (fCons (fCon (.int 2)) (fCons (fCon (.int 2)) (fCons (fCon (.int 1)) (fCons (fTup (fCons (fTup (fNil)) (fCons (fTup (fCons (fCon (.int 0)) (fCons (fCon (.int 1)) (fNil)))) (fNil)))) (fCons (fTup (fCons (fTup (fNil)) (fCons (fTup (fCons (fCon (.int 0)) (fCons (fCon (.int 1)) (fNil)))) (fNil)))) (fCons (fTup (fCons (fTup (fNil)) (fCons (fTup (fNil)) (fNil)))) (fNil))))))))))))))))) (fSeq (fIfS (tNotA (tOfE (fCallU 2 (f__law_same 12) (fCons (fVar 4) (fCons (fVar 5) (fNil)))))) (fRet (fCon (.bl false))) (fNext)) (fSeq (fSet 4 (fLst (fCons (fCallU 1 (f_matching) (fCons (fTup (fCons (fCon (.int 2)) (fCons (fTup (fCons (fTup (fCons (fCon (.int 0)) (fCons (fCon (.int 1)) (fNil)))) (fCons (fTup (fCons (fCon (.int 1)) (fCons (fCon (.int 1)) (fNil)))) (fNil)))) (fNil)))) (fNil))) (fCons (fCallU 1 (f_matching) (fCons (fTup (fCons (fCon (.int 2)) (fCons (fTup (fCons (fTup (fCons (fCon (.int 1)) (fCons (fCon (.int 1)) (fNil)))) (fCons (fTup (fCons (fCon (.int 1)) (fCons (fCon (.int 0)) (fNil)))) (fNil)))) (fNil)))) (fNil))) (fCons (fCallU 1 (f_cover) (fCons (fTup (fCons (fCon (.int 3)) (fCons (fTup (fCons (fTup (fCons (fCon (.int 1)) (fCons (fCon (.int 1)) (fCons (fCon (.int 1)) (fNil))))) (fCons (fTup (fCons (fCon (.int 0)) (fCons (fCon (.int 0)) (fCons (fCon (.int 1)) (fNil))))) (fNil)))) (fNil)))) (fNil))) (fCons (fCallU 1 (f_cover) (fCons (fTup (fCons (fCon (.int 3)) (fCons (fTup (fCons (fTup (fCons (fCon (.int 1)) (fCons (fCon (.int 1)) (fCons (fCon (.int 1)) (fNil))))) (fCons (fTup (fCons (fCon (.int 0)) (fCons (fCon (.int 0)) (fCons (fCon (.int 0)) (fNil))))) (fNil)))) (fNil)))) (fNil))) (fCons (fCallU 1 (f_narrow_rows) (fCons (fVar 1) (fNil))) (fCons (fCallU 1 (f_narrow_rows) (fCons (fVar 3) (fNil))) (fCons (fCallU 2 (f_is_narrow) (fCons (fVar 1) (fCons (fTup (fCons (fCon (.int 1)) (fCons (fCon (.int 2)) (fNil)))) (fNil)))) (fCons (fCallU 2 (f_is_narrow) (fCons (fVar 1) (fCons (fTup (fCons (fCon (.int 0)) (fCons (fCon (.int 1)) (fCons (fCon (.int 2)) (fNil))))) (fNil)))) (fCons (fCallU 2 (f_is_narrow) (fCons (fVar 1) (fCons (fTup (fCons (fCon (.int 0)) (fCons (fCon (.int 1)) (fNil)))) (fNil)))) (fCons (fCallU 2 (f_is_narrow) (fCons (fVar 1) (fCons (fTup (fNil)) (fNil)))) (fNil))))))))))))) (fSeq (fSet 5 (fLst (fCons (fTup (fCons (fTup (fCons (fCon (.int 0)) (fCons (fCon (.int 1)) (fNil)))) (fCons (fTup (fCons (fCon (.int 1)) (fCons (fCon (.int 0)) (fNil)))) (fNil)))) (fCons (fTup (fCons (fTup (fCons (fCon (.int 0)) (fCons (fCon (.int 1)) (fNil)))) (fCons (fTup (fCons (fCon (.int 1)) (fCons (fCon (.int 0)) (fNil)))) (fNil)))) (fCons (fTup (fCons (fTup (fCons (fCon (.int 0)) (fNil))) (fCons (fTup (fCons (fCon (.int 2)) (fNil))) (fNil)))) (fCons (fTup (fCons (fTup (fCons (fCon (.int 0)) (fNil))) (fCons (fTup (fNil)) (fNil)))) (fCons (fTup (fCons (fCon (.int 1)) (fCons (fCon (.int 2)) (fNil)))) (fCons (fTup (fCons (fCon (.int 0)) (fNil))) (fCons (fCon (.bl true)) (fCons (fCon (.bl true)) (fCons (fCon (.bl false)) (fCons (fCon (.bl false)) (fNil))))))))))))) (fSeq (fIfS (tNotA (tOfE (fCallU 2 (f__law_same 12) (fCons (fVar 4) (fCons (fVar 5) (fNil)))))) (fRet (fCon (.bl false))) (fNext)) (fSeq (fSet 6 (fLst (fCons (fTup (fCons (fTup (fCons (fCon (.int 0)) (fCons (fCon (.int 0)) (fNil)))) (fCons (fTup (fCons (fCon (.int 1)) (fCons (fCon (.int 1)) (fNil)))) (fNil)))) (fCons (fTup (fCons (fTup (fCons (fCon (.int 0)) (fCons (fCon (.int 0)) (fNil)))) (fNil))) (fCons (fTup (fNil)) (fCons (fTup (fCons (fTup (fCons (fCon (.int 1)) (fCons (fCon (.int 1)) (fNil)))) (fCons (fTup (fCons (fCon (.int 0)) (fCons (fCon (.int 0)) (fNil)))) (fNil)))) (fCons (fTup (fCons (fTup (fCons (fCon (.int 0)) (fCons (fCon (.int 2)) (fNil)))) (fNil))) (fCons (fTup (fCons (fTup (fCons (fCon (.int 0)) (fCons (fCon (.int 0)) (fNil)))) (fCons (fTup (fCons (fCon (.int 0)) (fCons (fCon (.int 1)) (fNil)))) (fNil)))) (fCons (fTup (fCons (fTup (fCons (fCon (.int 0)) (fCons (fCon (.int 1)) (fNil)))) (fCons (fTup (fCons (fCon (.int 1)) (fCons (fCon (.int 1)) (fNil)))) (fNil)))) (fCons (fLst (fCons (fTup (fCons (fCon (.int 0)) (fCons (fCon (.int 0)) (fNil)))) (fNil))) (fCons (fTup (fCons (fLst (fCons (fCon (.int 0)) (fCons (fCon (.int 0)) (fNil)))) (fNil))) (fCons (fTup (fCons (fTup (fCons (fCon (.int 0)) (fCons (fCon (.int 0)) (fCons (fCon (.int 0)) (fNil))))) (fNil))) (fCons (fTup (fCons (fTup (fCons (fCon (.int 3)) (fCons (fCon (.int 0)) (fNil)))) (fNil))) (fCons (fTup (fCons (fTup (fCons (fCon (.bl true)) (fCons (fCon (.int 1)) (fNil)))) (fNil))) (fCons (fCon .non) (fCons (fTup (fCons (fTup (fCons (fCon (.int 0)) (fCons (fCon (.int 0)) (fNil)))) (fCons (fTup (fCons (fCon (.int 0)) (fCons (fCon (.int 0)) (fNil)))) (fNil)))) (fNil))))))))))))))))) (fSeq (fIfS (tOrA (t2 (cEq true) (eOfL (fLcX (iSeqD (fVar 6)) (.nm 12) (fYes) (fCallU 2 (f_is_matching) (fCons (fVar 1) (fCons (fVar 12) (fNil)))) [12] 3000)) (f2 gAdd (fLst (fCons (fCon (.bl true)) (fCons (fCon (.bl true)) (fCons (fCon (.bl true)) (fNil))))) (f2 gMulE (fLst (fCons (fCon (.bl false)) (fNil))) (fCon (.int 11))))) (t2 (cEq true) (eOfL (fLcX (iSeqD (fVar 6)) (.nm 12) (fYes) (fCallU 2 (f_is_greatest) (fCons (fVar 1) (fCons (fVar 12) (fNil)))) [12] 3000)) (f2 gAdd (fLst (fCons (fCon (.bl true)) (fNil))) (f2 gMulE (fLst (fCons (fCon (.bl false)) (fNil))) (fCon (.int 13)))))) (fRet (fCon (.bl false))) (fNext)) (fSeq (fSet 6 (fLst (fCons (fTup (fCons (fTup (fNil)) (fCons (fTup (fCons (fCon (.int 0)) (fCons (fCon (.int 1)) (fNil)))) (fNil)))) (fCons (fTup (fCons (fTup (fCons (fCon (.int 0)) (fCons (fCon (.int 1)) (fCons (fCon (.int 2)) (fNil))))) (fCons (fTup (fNil)) (fNil)))) (fCons (fTup (fCons (fTup (fCons (fCon (.int 0)) (fNil))) (fCons (fTup (fCons (fCon (.int 1)) (fNil))) (fNil)))) (fCons (fTup (fCons (fTup (fCons (fCon (.int 0)) (fNil))) (fCons (fTup (fCons (fCon (.int 0)) (fNil))) (fNil)))) (fCons (fTup (fCons (fTup (fNil)) (fCons (fTup (fCons (fCon (.int 1)) (fNil))) (fNil)))) (fCons (fTup (fCons (fTup (fCons (fCon (.int 0)) (fCons (fCon (.int 1)) (fNil)))) (fCons (fTup (fNil)) (fNil)))) (fCons (fTup (fCons (fTup (fCons (fCon (.int 0)) (fNil))) (fCons (fTup (fCons (fCon (.int 1)) (fNil))) (fCons (fTup (fNil)) (fNil))))) (fCons (fTup (fCons (fTup (fCons (fCon (.int 1)) (fCons (fCon (.int 0)) (fCons (fCon (.int 2)) (fNil))))) (fCons (fTup (fNil)) (fNil)))) (fCons (fTup (fCons (fTup (fNil)) (fCons (fTup (fCons (fCon (.int 0)) (fCons (fCon (.int 1)) (fCons (fCon (.int 2)) (fNil))))) (fNil)))) (fCons (fLst (fCons (fTup (fNil)) (fCons (fTup (fCons (fCon (.int 0)) (fCons (fCon (.int 1)) (fNil)))) (fNil)))) (fCons (fTup (fCons (fTup (fNil)) (fCons (fTup (fCons (fCon (.int 0)) (fCons (fCon (.int 3)) (fNil)))) (fNil)))) (fCons (fTup (fCons (fCon (.int 0)) (fCons (fCon (.int 1)) (fNil)))) (fNil))))))))))))))) (fSeq (fIfS (t2 (cEq true) (eOfL (fLcX (iSeqD (fVar 6)) (.nm 12) (fYes) (fCallU 2 (f_is_cover) (fCons (fVar 1) (fCons (fVar 12) (fNil)))) [12] 3000)) (fLst (fCons (fCon (.bl true)) (fCons (fCon (.bl true)) (fCons (fCon (.bl true)) (fCons (fCon (.bl false)) (fCons (fCon (.bl false)) (fCons (fCon (.bl false)) (fCons (fCon (.bl false)) (fCons (fCon (.bl false)) (fCons (fCon (.bl true)) (fCons (fCon (.bl false)) (fCons (fCon (.bl false)) (fCons (fCon (.bl false)) (fNil))))))))))))))) (fRet (fCon (.bl false))) (fNext)) (fSeq (fSet 7 (fLst (fCons (fTup (fCons (fTup (fCons (fTup (fCons (fCon (.int 0)) (fCons (fCon (.int 0)) (fNil)))) (fCons (fTup (fCons (fCon (.int 1)) (fCons (fCon (.int 1)) (fNil)))) (fNil)))) (fCons (fTup (fCons (fTup (fNil)) (fCons (fTup (fCons (fCon (.int 0)) (fCons (fCon (.int 1)) (fNil)))) (fNil)))) (fNil)))) (fCons (fTup (fCons (fTup (fCons (fTup (fCons (fCon (.int 0)) (fCons (fCon (.int 0)) (fNil)))) (fCons (fTup (fCons (fCon (.int 2)) (fCons (fCon (.int 1)) (fNil)))) (fNil)))) (fCons (fTup (fCons (fTup (fCons (fCon (.int 0)) (fNil))) (fCons (fTup (fCons (fCon (.int 1)) (fNil))) (fNil)))) (fNil)))) (fCons (fTup (fCons (fTup (fCons (fTup (fCons (fCon (.int 0)) (fCons (fCon (.int 0)) (fNil)))) (fNil))) (fCons (fTup (fCons (fTup (fNil)) (fCons (fTup (fCons (fCon (.int 0)) (fCons (fCon (.int 1)) (fNil)))) (fNil)))) (fNil)))) (fCons (fTup (fCons (fTup (fCons (fTup (fCons (fCon (.int 0)) (fCons (fCon (.int 0)) (fNil)))) (fCons (fTup (fCons (fCon (.int 1)) (fCons (fCon (.int 1)) (fNil)))) (fNil)))) (fCons (fTup (fCons (fTup (fCons (fCon (.int 0)) (fCons (fCon (.int 1)) (fCons (fCon (.int 2)) (fNil))))) (fCons (fTup (fNil)) (fNil)))) (fNil)))) (fCons (fTup (fCons (fTup (fCons (fTup (fCons (fCon (.int 0)) (fCons (fCon (.int 0)) (fNil)))) (fCons (fTup (fCons (fCon (.int 1)) (fCons (fCon (.int 1)) (fNil)))) (fNil)))) (fNil))) (fCons (fLst (fCons (fTup (fCons (fTup (fCons (fCon (.int 0)) (fCons (fCon (.int 0)) (fNil)))) (fCons (fTup (fCons (fCon (.int 1)) (fCons (fCon (.int 1)) (fNil)))) (fNil)))) (fCons (fTup (fCons (fTup (fNil)) (fCons (fTup (fCons (fCon (.int 0)) (fCons (fCon (.int 1)) (fNil)))) (fNil)))) (fNil)))) (fNil))))))))) (fSeq (fIfS (tOrA (t2 (cEq true) (eOfL (fLcX (iSeqD (fVar 7)) (.nm 12) (fYes) (fCallU 2 (f_is_rank_paper) (fCons (fVar 1) (fCons (fVar 12) (fNil)))) [12] 3000)) (fLst (fCons (fCon (.bl true)) (fCons (fCon (.bl true)) (fCons (fCon (.bl false)) (fCons (fCon (.bl false)) (fCons (fCon (.bl false)) (fCons (fCon (.bl false)) (fNil))))))))) (tNotA (tOfE (fCallU 2 (f_is_rank_paper) (fCons (fVar 1) (fCons (fCallU 1 (f_rank_paper) (fCons (fVar 1) (fNil))) (fNil))))))) (fRet (fCon (.bl false))) (fNext)) (fSeq (fSet 8 (fLst (fCons (fTup (fCons (fCon (.int 1)) (fCons (fCon (.int 1)) (fCons (fCon (.int 0)) (fCons (fCon (.int 0)) (fNil)))))) (fCons (fTup (fCons (fCon (.int 2)) (fCons (fCon (.int 1)) (fCons (fCon (.int 0)) (fCons (fCon (.int 0)) (fNil)))))) (fCons (fTup (fCons (fCon (.int 1)) (fCons (fCon (.int 1)) (fNil)))) (fCons (fTup (fCons (fCon (.int 0)) (fCons (fCon (.int 0)) (fNil)))) (fCons (fTup (fCons (fCon (.int 1)) (fCons (fCon (.int 1)) (fCons (fCon (.int 0)) (fNil))))) (fCons (fTup (fNil)) (fCons (fTup (fCons (fCon (.int 1)) (fCons (fCon (.int 1)) (fCons (fCon (.int 0)) (fCons (fCon (.int 1)) (fNil)))))) (fCons (fTup (fCons (fCon (.int 1)) (fCons (fCon (.int 0)) (fCons (fCon (.int 0)) (fCons (fCon (.int 0)) (fNil)))))) (fCons (fLst (fCons (fCon (.int 1)) (fCons (fCon (.int 1)) (fCons (fCon (.int 0)) (fCons (fCon (.int 0)) (fNil)))))) (fCons (fCon .non) (fNil))))))))))))) (fSeq (fIfS (tOrA (t2 (cEq true) (eOfL (fLcX (iSeqD (fVar 8)) (.nm 12) (fYes) (fCallU 3 (f_is_longer_way) (fCons (fVar 1) (fCons (fTup (fCons (fTup (fCons (fCon (.int 0)) (fCons (fCon (.int 1)) (fNil)))) (fNil))) (fCons (fVar 12) (fNil))))) [12] 3000)) (f2 gAdd (fLst (fCons (fCon (.bl true)) (fCons (fCon (.bl true)) (fNil)))) (f2 gMulE (fLst (fCons (fCon (.bl false)) (fNil))) (fCon (.int 8))))) (tNotA (tOfE (fCallU 3 (f_is_longer_way) (fCons (fVar 1) (fCons (fLst (fCons (fLst (fCons (fCon (.int 0)) (fCons (fCon (.int 1)) (fNil)))) (fNil))) (fCons (fCallU 2 (f_longer_way) (fCons (fVar 1) (fCons (fLst (fCons (fLst (fCons (fCon (.int 0)) (fCons (fCon (.int 1)) (fNil)))) (fNil))) (fNil)))) (fNil)))))))) (fRet (fCon (.bl false))) (fNext)) (fSeq (fIfS (t2 (cEq true) (eOfL (fLcX (iSeqD (fTup (fCons (fTup (fCons (fCon (.int 0)) (fCons (fCon (.int 0)) (fNil)))) (fCons (fTup (fCons (fCon (.int 0)) (fCons (fCon (.int 1)) (fNil)))) (fCons (fTup (fCons (fCon (.int 1)) (fCons (fCon (.int 1)) (fNil)))) (fCons (fTup (fCons (fCon (.int 1)) (fCons (fCon (.int 0)) (fNil)))) (fCons (fTup (fCons (fCon (.int 0)) (fCons (fCon (.int 2)) (fNil)))) (fCons (fTup (fCons (fCon (.int 0)) (fCons (fCon (.int 0)) (fCons (fCon (.int 1)) (fCons (fCon (.int 1)) (fNil)))))) (fNil))))))))) (.nm 12) (fYes) (fCallU 3 (f_is_longer_way) (fCons (fVar 1) (fCons (fTup (fNil)) (fCons (fVar 12) (fNil))))) [12] 3000)) (fLst (fCons (fCon (.bl true)) (fCons (fCon (.bl true)) (fCons (fCon (.bl true)) (fCons (fCon (.bl false)) (fCons (fCon (.bl false)) (fCons (fCon (.bl false)) (fNil))))))))) (fRet (fCon (.bl false))) (fNext)) (fSeq (fSet 9 (fLst (fCons (fTup (fCons (fCon (.int 3)) (fCons (fTup (fCons (fTup (fCons (fCon (.int 1)) (fCons (fCon (.int 5)) (fCons (fCon (.int 0)) (fNil))))) (fCons (fTup (fCons (fCon (.int 0)) (fCons (fCon (.int 2)) (fCons (fCon (.int 0)) (fNil))))) (fCons (fTup (fCons (fCon (.int 0)) (fCons (fCon (.int 0)) (fCons (fCon (.int 0)) (fNil))))) (fNil))))) (fNil)))) (fCons (fTup (fCons (fCon (.int 3)) (fCons (fTup (fCons (fTup (fCons (fCon (.int 1)) (fCons (fCon (.int 5)) (fCons (fCon (.int 0)) (fNil))))) (fCons (fTup (fCons (fCon (.int 0)) (fCons (fNeg (fCon (.int 2))) (fCons (fCon (.int 0)) (fNil))))) (fCons (fTup (fCons (fCon (.int 0)) (fCons (fCon (.int 7)) (fCons (fCon (.int 0)) (fNil))))) (fNil))))) (fNil)))) (fCons (fTup (fCons (fCon (.int 3)) (fCons (fTup (fCons (fTup (fCons (fCon (.int 1)) (fCons (fCon (.int 5)) (fCons (fCon (.int 0)) (fNil))))) (fCons (fTup (fCons (fCon (.int 0)) (fCons (fCon (.int 0)) (fCons (fCon (.int 0)) (fNil))))) (fCons (fTup (fCons (fCon (.int 0)) (fCons (fCon (.int 2)) (fCons (fCon (.int 0)) (fNil))))) (fNil))))) (fNil)))) (fCons (fTup (fCons (fCon (.int 3)) (fCons (fTup (fCons (fTup (fCons (fCon (.int 1)) (fCons (fCon (.int 5)) (fCons (fCon (.int 1)) (fNil))))) (fCons (fTup (fCons (fCon (.int 0)) (fCons (fCon (.int 2)) (fCons (fCon (.int 0)) (fNil))))) (fCons (fTup (fCons (fCon (.int 0)) (fCons (fCon (.int 0)) (fCons (fCon (.int 0)) (fNil))))) (fNil))))) (fNil)))) (fCons (fTup (fCons (fCon (.int 2)) (fCons (fTup (fCons (fTup (fCons (fCon (.int 1)) (fCons (fCon (.int 5)) (fNil)))) (fCons (fTup (fCons (fCon (.int 0)) (fCons (fCon (.int 2)) (fNil)))) (fCons (fTup (fCons (fCon (.int 0)) (fCons (fCon (.int 0)) (fNil)))) (fNil))))) (fNil)))) (fCons (fLst (fCons (fCon (.int 3)) (fCons (fTup (fCons (fTup (fCons (fCon (.int 1)) (fCons (fCon (.int 5)) (fCons (fCon (.int 0)) (fNil))))) (fCons (fTup (fCons (fCon (.int 0)) (fCons (fCon (.int 2)) (fCons (fCon (.int 0)) (fNil))))) (fCons (fTup (fCons (fCon (.int 0)) (fCons (fCon (.int 0)) (fCons (fCon (.int 0)) (fNil))))) (fNil))))) (fNil)))) (fNil))))))))) (fSeq (fIfS (tOrA (t2 (cEq true) (eOfL (fLcX (iSeqD (fVar 9)) (.nm 12) (fYes) (fCallU 2 (f_is_whole_table) (fCons (fVar 1) (fCons (fVar 12) (fNil)))) [12] 3000)) (f2 gAdd (fLst (fCons (fCon (.bl true)) (fCons (fCon (.bl true)) (fNil)))) (f2 gMulE (fLst (fCons (fCon (.bl false)) (fNil))) (fCon (.int 4))))) (t2 (cEq true) (eOfL (fLcX (iSeqD (fTup (fCons (fTup (fCons (fCon (.int 2)) (fCons (fTup (fCons (fTup (fCons (fCon (.int 0)) (fCons (fCon (.int 1)) (fNil)))) (fCons (fTup (fCons (fCon (.int 1)) (fCons (fCon (.int 0)) (fNil)))) (fNil)))) (fNil)))) (fCons (fTup (fCons (fCon (.int 2)) (fCons (fTup (fCons (fTup (fCons (fCon (.int 1)) (fCons (fCon (.int 1)) (fNil)))) (fCons (fTup (fCons (fCon (.int 1)) (fCons (fCon (.int 1)) (fNil)))) (fNil)))) (fNil)))) (fNil))))) (.nm 12) (fYes) (fCallU 2 (f_is_whole_table) (fCons (fVar 2) (fCons (fVar 12) (fNil)))) [12] 3000)) (fLst (fCons (fCon (.bl true)) (fCons (fCon (.bl false)) (fNil)))))) (fRet (fCon (.bl false))) (fNext)) (fSeq (fFor (iSeqD (fTup (fCons (fVar 1) (fCons (fVar 2) (fCons (fVar 3) (fCons (fTup (fCons (fCon (.int 0)) (fCons (fTup (fCons (fTup (fNil)) (fNil))) (fNil)))) (fCons (fTup (fCons (fCon (.int 2)) (fCons (fTup (fNil)) (fNil)))) (fNil)))))))) (.nm 10) (fIfS (tOrA (tNotA (tOfE (fCallU 2 (f_is_whole_table) (fCons (fVar 10) (fCons (fCallU 1 (f_whole_table) (fCons (fCallU 1 (f__law_lists 12) (fCons (fVar 10) (fNil))) (fNil))) (fNil)))))) (tNotA (tOfE (fCallU 2 (f_is_rank_paper) (fCons (fVar 10) (fCons (fCallU 1 (f_rank_paper) (fCons (fVar 10) (fNil))) (fNil))))))) (fRet (fCon (.bl false))) (fNext)) 3000) (fSeq (fSet 4 (fLst (fCons (fCallU 3 (f__law_heard) (fCons (fCon (.int 0)) (fCons (fVar 1) (fCons (fTup (fCons (fTup (fCons (fCon (.int 0)) (fCons (fCon (.int 0)) (fNil)))) (fCons (fTup (fCons (fCon (.int 1)) (fCons (fCon (.int 1)) (fNil)))) (fNil)))) (fNil))))) (fCons (fCallU 3 (f__law_heard) (fCons (fCon (.int 1)) (fCons (fVar 2) (fCons (fTup (fNil)) (fNil))))) (fCons (fCallU 3 (f__law_heard) (fCons (fCon (.int 0)) (fCons (fVar 3) (fCons (fTup (fNil)) (fNil))))) (fCons (fCallK 1 0 1 [0] (f_matching) (fNil) (fCons (fLst (fCons (fCon (.int 1)) (fCons (fLst (fCons (fLst (fCons (fCon (.int 2)) (fNil))) (fNil))) (fNil)))) (fNil))) (fCons (fCallK 2 0 2 [0, 1] (f_is_narrow) (fNil) (fCons (fVar 2) (fCons (fLst (fCons (fCon (.int 0)) (fNil))) (fNil)))) (fCons (fCallK 2 0 2 [0, 1] (f_is_matching) (fNil) (fCons (fVar 2) (fCons (fTup (fNil)) (fNil)))) (fCons (fCallK 3 0 3 [0, 1, 2] (f_is_longer_way) (fNil) (fCons (fVar 2) (fCons (fTup (fNil)) (fCons (fTup (fCons (fCon (.int 0)) (fCons (fCon (.int 0)) (fNil)))) (fNil))))) (fNil)))))))))) (fSeq (fSet 11 (fLst (fCons (fCallK 2 0 2 [0, 1] (f_is_rank_paper) (fNil) (fCons (fVar 2) (fCons (fTup (fCons (fTup (fCons (fTup (fCons (fCon (.int 0)) (fCons (fCon (.int 0)) (fNil)))) (fCons (fTup (fCons (fCon (.int 1)) (fCons (fCon (.int 1)) (fNil)))) (fNil)))) (fCons (fTup (fCons (fTup (fNil)) (fCons (fTup (fCons (fCon (.int 0)) (fCons (fCon (.int 1)) (fNil)))) (fNil)))) (fNil)))) (fNil)))) (fCons (fCallK 2 0 2 [0, 1] (f_is_greatest) (fNil) (fCons (fVar 2) (fCons (fTup (fCons (fTup (fCons (fCon (.int 0)) (fCons (fCon (.int 0)) (fNil)))) (fCons (fTup (fCons (fCon (.int 1)) (fCons (fCon (.int 1)) (fNil)))) (fNil)))) (fNil)))) (fNil))))) (fSeq (fSet 11 (f2 gAdd (fVar 11) (fLst (fCons (fCallK 1 0 1 [0] (f_matchings_many) (fNil) (fCons (fVar 2) (fNil))) (fCons (fCallK 2 0 2 [0, 1] (f_is_cover) (fNil) (fCons (fVar 2) (fCons (fTup (fCons (fTup (fCons (fCon (.int 0)) (fCons (fCon (.int 1)) (fNil)))) (fCons (fTup (fNil)) (fNil)))) (fNil)))) (fCons (fCallK 1 0 1 [0] (f_narrow_rows) (fNil) (fCons (fVar 3) (fNil))) (fNil))))))) (fSeq (fSet 11 (f2 gAdd (fVar 11) (fLst (fCons (fCallU 3 (f_is_longer_way) (fCons (fVar 2) (fCons (fTup (fNil)) (fCons (fCallK 2 0 2 [0, 1] (f_longer_way) (fNil) (fCons (fVar 2) (fCons (fTup (fNil)) (fNil)))) (fNil))))) (fCons (fCallK 2 0 2 [0, 1] (f_is_whole_table) (fNil) (fCons (fVar 2) (fCons (fTup (fCons (fCon (.int 2)) (fCons (fTup (fCons (fTup (fCons (fCon (.int 0)) (fCons (fCon (.int 1)) (fNil)))) (fCons (fTup (fCons (fCon (.int 1)) (fCons (fCon (.int 0)) (fNil)))) (fNil)))) (fNil)))) (fNil)))) (fNil)))))) (fSeq (fIfS (tNotA (tOfE (fCallU 2 (f__law_same 12) (fCons (fVar 11) (fCons (fLst (fCons (fCon (.bl true)) (fCons (fCon (.bl true)) (fCons (fCon (.int 2)) (fCons (fCon (.bl true)) (fCons (fTup (fCons (fCon (.int 0)) (fNil))) (fCons (fCon (.bl true)) (fCons (fCon (.bl true)) (fNil))))))))) (fNil)))))) (fRet (fCon (.bl false))) (fNext)) (fRet (fAnd (fCallU 2 (f__law_same 12) (fCons (fVar 4) (fCons (fLst (fCons (fCon (.bl true)) (fCons (fCon (.bl true)) (fCons (fCon (.bl true)) (fCons (fTup (fCons (fTup (fCons (fCon (.int 0)) (fCons (fCon (.int 0)) (fNil)))) (fNil))) (fCons (fCon (.bl false)) (fCons (fCon (.bl true)) (fCons (fCon (.bl true)) (fNil))))))))) (fNil)))) (fCallU 2 (f__law_same 12) (fCons (eOfL (fLcX (iRng1A (fCons (fCon (.int 18)) (fNil))) (.nm 13) (fYes) (fCallU 1 (f__law_refused) (fCons (fVar 13) (fNil))) [13] 3000)) (fCons (f2 gMulE (fLst (fCons (fCon (.bl true)) (fNil))) (fCon (.int 18))) (fNil)))))))))))))))))))))))))))))
def f_law : GL := runF 14 b_law
theorem ok_law {P : Program} {K : PySem.W.Frag} {mg : Str → Option Value} {base : Heap} {g : Ev.Gl} (W : Wd K mg g) : ∀ k, 17 ≤ k → FnOk P g.w K mg base (L2.CX P g.w) k (g.fa 46) (g.fd 46) ["script"] (spA g 1 f_law)
  | 0, h => absurd h (by decide)
  | k + 1, h => ok_fn (N := ["script", "arrow", "full", "bare", "got", "due", "things", "papers", "ways", "tables", "pattern", "words", "own", "door"]) (ps := ["script"]) (body := b_law) W.d_law.F sc_law fun cdv A outer s H E hr => by
    unfold b_law
    exact (ess_cons (es_asg (ee_tup (ea_cons (ee_tup (ea_cons ee_int (ea_cons (ee_tup (ea_cons (ee_tup (ea_cons ee_int (ea_cons ee_int (ea_cons ee_int ea_nil rfl) rfl) rfl)) (ea_cons (ee_tup (ea_cons ee_int (ea_cons ee_int (ea_cons ee_int ea_nil rfl) rfl) rfl)) (ea_cons (ee_tup (ea_cons ee_int (ea_cons ee_int (ea_cons ee_int ea_nil rfl) rfl) rfl)) ea_nil rfl) rfl) rfl)) ea_nil rfl) rfl)) (ea_cons (ee_tup (ea_cons ee_int (ea_cons (ee_tup (ea_cons (ee_tup (ea_cons ee_int (ea_cons ee_int ea_nil rfl) rfl)) (ea_cons (ee_tup (ea_cons ee_int (ea_cons ee_int ea_nil rfl) rfl)) ea_nil rfl) rfl)) ea_nil rfl) rfl)) (ea_cons (ee_tup (ea_cons ee_int (ea_cons (ee_tup (ea_cons (ee_tup (ea_cons ee_int (ea_cons ee_int ea_nil rfl) rfl)) (ea_cons (ee_tup (ea_cons ee_int (ea_cons ee_int ea_nil rfl) rfl)) ea_nil rfl) rfl)) ea_nil rfl) rfl)) ea_nil rfl) rfl) rfl)) (eg_tup rfl (eg_cons (eg_nm (i := 1) sc_law.nd rfl (by first | exact .inl rfl | exact .inr rfl) (by first | exact .inl rfl | exact .inr rfl)) (eg_cons (eg_nm (i := 2) sc_law.nd rfl (by first | exact .inl rfl | exact .inr rfl) (by first | exact .inl rfl | exact .inr rfl)) (eg_cons (eg_nm (i := 3) sc_law.nd rfl (by first | exact .inl rfl | exact .inr rfl) (by first | exact .inl rfl | exact .inr rfl)) eg_nil))))) (ess_cons (es_set (i := 4) sc_law.nd rfl (by first | exact .inl rfl | exact .inr rfl) (ee_lst (ea_cons (ee_call W.d_most_rank (ok_most_rank W k (by omega)) hr rfl (at_of (takes_of rfl rfl rfl rfl)) (ea_cons (ee_var (i := 1) rfl (by first | exact .inl rfl | exact .inr (.inl rfl) | exact .inr (.inr rfl)) (by decide) (by decide)) ea_nil rfl)) (ea_cons (ee_call W.d_most_rank (ok_most_rank W k (by omega)) hr rfl (at_of (takes_of rfl rfl rfl rfl)) (ea_cons (ee_var (i := 2) rfl (by first | exact .inl rfl | exact .inr (.inl rfl) | exact .inr (.inr rfl)) (by decide) (by decide)) ea_nil rfl)) (ea_cons (ee_call W.d_most_rank (ok_most_rank W k (by omega)) hr rfl (at_of (takes_of rfl rfl rfl rfl)) (ea_cons (ee_var (i := 3) rfl (by first | exact .inl rfl | exact .inr (.inl rfl) | exact .inr (.inr rfl)) (by decide) (by decide)) ea_nil rfl)) (ea_cons (ee_call W.d_most_rank (ok_most_rank W k (by omega)) hr rfl (at_of (takes_of rfl rfl rfl rfl)) (ea_cons (ee_tup (ea_cons ee_int (ea_cons (ee_tup (ea_cons (ee_tup ea_nil) ea_nil rfl)) ea_nil rfl) rfl)) ea_nil rfl)) (ea_cons (ee_call W.d_most_rank (ok_most_rank W k (by omega)) hr rfl (at_of (takes_of rfl rfl rfl rfl)) (ea_cons (ee_tup (ea_cons ee_int (ea_cons (ee_tup ea_nil) ea_nil rfl) rfl)) ea_nil rfl)) (ea_cons (ee_call W.d_matching (ok_matching W k (by omega)) hr rfl (at_of (takes_of rfl rfl rfl rfl)) (ea_cons (ee_var (i := 1) rfl (by first | exact .inl rfl | exact .inr (.inl rfl) | exact .inr (.inr rfl)) (by decide) (by decide)) ea_nil rfl)) (ea_cons (ee_call W.d_matching (ok_matching W k (by omega)) hr rfl (at_of (takes_of rfl rfl rfl rfl)) (ea_cons (ee_var (i := 2) rfl (by first | exact .inl rfl | exact .inr (.inl rfl) | exact .inr (.inr rfl)) (by decide) (by decide)) ea_nil rfl)) (ea_cons (ee_call W.d_matching (ok_matching W k (by omega)) hr rfl (at_of (takes_of rfl rfl rfl rfl)) (ea_cons (ee_var (i := 3) rfl (by first | exact .inl rfl | exact .inr (.inl rfl) | exact .inr (.inr rfl)) (by decide) (by decide)) ea_nil rfl)) (ea_cons (ee_call W.d_matchings_many (ok_matchings_many W k (by omega)) hr rfl (at_of (takes_of rfl rfl rfl rfl)) (ea_cons (ee_var (i := 1) rfl (by first | exact .inl rfl | exact .inr (.inl rfl) | exact .inr (.inr rfl)) (by decide) (by decide)) ea_nil rfl)) (ea_cons (ee_call W.d_matchings_many (ok_matchings_many W k (by omega)) hr rfl (at_of (takes_of rfl rfl rfl rfl)) (ea_cons (ee_var (i := 2) rfl (by first | exact .inl rfl | exact .inr (.inl rfl) | exact .inr (.inr rfl)) (by decide) (by decide)) ea_nil rfl)) (ea_cons (ee_call W.d_matchings_many (ok_matchings_many W k (by omega)) hr rfl (at_of (takes_of rfl rfl rfl rfl)) (ea_cons (ee_var (i := 3) rfl (by first | exact .inl rfl | exact .inr (.inl rfl) | exact .inr (.inr rfl)) (by decide) (by decide)) ea_nil rfl)) (ea_cons (ee_call W.d_cover (ok_cover W k (by omega)) hr rfl (at_of (takes_of rfl rfl rfl rfl)) (ea_cons (ee_var (i := 1) rfl (by first | exact .inl rfl | exact .inr (.inl rfl) | exact .inr (.inr rfl)) (by decide) (by decide)) ea_nil rfl)) (ea_cons (ee_call W.d_cover (ok_cover W k (by omega)) hr rfl (at_of (takes_of rfl rfl rfl rfl)) (ea_cons (ee_var (i := 2) rfl (by first | exact .inl rfl | exact .inr (.inl rfl) | exact .inr (.inr rfl)) (by decide) (by decide)) ea_nil rfl)) (ea_cons (ee_call W.d_cover (ok_cover W k (by omega)) hr rfl (at_of (takes_of rfl rfl rfl rfl)) (ea_cons (ee_var (i := 3) rfl (by first | exact .inl rfl | exact .inr (.inl rfl) | exact .inr (.inr rfl)) (by decide) (by decide)) ea_nil rfl)) ea_nil rfl) rfl) rfl) rfl) rfl) rfl) rfl) rfl) rfl) rfl) rfl) rfl) rfl) rfl)) rfl (by first | exact .inl rfl | exact .inr rfl)) (ess_cons (es_set (i := 5) sc_law.nd rfl (by first | exact .inl rfl | exact .inr rfl) (ee_lst (ea_cons ee_int (ea_cons ee_int (ea_cons ee_int (ea_cons ee_int (ea_cons ee_int (ea_cons (ee_tup (ea_cons (ee_tup (ea_cons ee_int (ea_cons ee_int ea_nil rfl) rfl)) (ea_cons (ee_tup (ea_cons ee_int (ea_cons ee_int ea_nil rfl) rfl)) ea_nil rfl) rfl)) (ea_cons (ee_tup (ea_cons (ee_tup (ea_cons ee_int (ea_cons ee_int ea_nil rfl) rfl)) (ea_cons (ee_tup (ea_cons ee_int (ea_cons ee_int ea_nil rfl) rfl)) ea_nil rfl) rfl)) (ea_cons (ee_tup ea_nil) (ea_cons ee_int (ea_cons ee_int (ea_cons ee_int (ea_cons (ee_tup (ea_cons (ee_tup ea_nil) (ea_cons (ee_tup (ea_cons ee_int (ea_cons ee_int ea_nil rfl) rfl)) ea_nil rfl) rfl)) (ea_cons (ee_tup (ea_cons (ee_tup ea_nil) (ea_cons (ee_tup (ea_cons ee_int (ea_cons ee_int ea_nil rfl) rfl)) ea_nil rfl) rfl)) (ea_cons (ee_tup (ea_cons (ee_tup ea_nil) (ea_cons (ee_tup ea_nil) ea_nil rfl) rfl)) ea_nil rfl) rfl) rfl) rfl) rfl) rfl) rfl) rfl) rfl) rfl) rfl) rfl) rfl) rfl)) rfl (by first | exact .inl rfl | exact .inr rfl)) (ess_cons (es_if (et_not (et_truth (ee_call W.d__law_same (ok__law_same W 12 k (by omega)) hr rfl (at_of (takes_of rfl rfl rfl rfl)) (ea_cons (ee_var (i := 4) rfl (by first | exact .inl rfl | exact .inr (.inl rfl) | exact .inr (.inr rfl)) (by decide) (by decide)) (ea_cons (ee_var (i := 5) rfl (by first | exact .inl rfl | exact .inr (.inl rfl) | exact .inr (.inr rfl)) (by decide) (by decide)) ea_nil rfl) rfl)) (fun _ => rfl))) (ess_one (es_ret ee_bl)) ess_nil) (ess_cons (es_set (i := 4) sc_law.nd rfl (by first | exact .inl rfl | exact .inr rfl) (ee_lst (ea_cons (ee_call W.d_matching (ok_matching W k (by omega)) hr rfl (at_of (takes_of rfl rfl rfl rfl)) (ea_cons (ee_tup (ea_cons ee_int (ea_cons (ee_tup (ea_cons (ee_tup (ea_cons ee_int (ea_cons ee_int ea_nil rfl) rfl)) (ea_cons (ee_tup (ea_cons ee_int (ea_cons ee_int ea_nil rfl) rfl)) ea_nil rfl) rfl)) ea_nil rfl) rfl)) ea_nil rfl)) (ea_cons (ee_call W.d_matching (ok_matching W k (by omega)) hr rfl (at_of (takes_of rfl rfl rfl rfl)) (ea_cons (ee_tup (ea_cons ee_int (ea_cons (ee_tup (ea_cons (ee_tup (ea_cons ee_int (ea_cons ee_int ea_nil rfl) rfl)) (ea_cons (ee_tup (ea_cons ee_int (ea_cons ee_int ea_nil rfl) rfl)) ea_nil rfl) rfl)) ea_nil rfl) rfl)) ea_nil rfl)) (ea_cons (ee_call W.d_cover (ok_cover W k (by omega)) hr rfl (at_of (takes_of rfl rfl rfl rfl)) (ea_cons (ee_tup (ea_cons ee_int (ea_cons (ee_tup (ea_cons (ee_tup (ea_cons ee_int (ea_cons ee_int (ea_cons ee_int ea_nil rfl) rfl) rfl)) (ea_cons (ee_tup (ea_cons ee_int (ea_cons ee_int (ea_cons ee_int ea_nil rfl) rfl) rfl)) ea_nil rfl) rfl)) ea_nil rfl) rfl)) ea_nil rfl)) (ea_cons (ee_call W.d_cover (ok_cover W k (by omega)) hr rfl (at_of (takes_of rfl rfl rfl rfl)) (ea_cons (ee_tup (ea_cons ee_int (ea_cons (ee_tup (ea_cons (ee_tup (ea_cons ee_int (ea_cons ee_int (ea_cons ee_int ea_nil rfl) rfl) rfl)) (ea_cons (ee_tup (ea_cons ee_int (ea_cons ee_int (ea_cons ee_int ea_nil rfl) rfl) rfl)) ea_nil rfl) rfl)) ea_nil rfl) rfl)) ea_nil rfl)) (ea_cons (ee_call W.d_narrow_rows (ok_narrow_rows W k (by omega)) hr rfl (at_of (takes_of rfl rfl rfl rfl)) (ea_cons (ee_var (i := 1) rfl (by first | exact .inl rfl | exact .inr (.inl rfl) | exact .inr (.inr rfl)) (by decide) (by decide)) ea_nil rfl)) (ea_cons (ee_call W.d_narrow_rows (ok_narrow_rows W k (by omega)) hr rfl (at_of (takes_of rfl rfl rfl rfl)) (ea_cons (ee_var (i := 3) rfl (by first | exact .inl rfl | exact .inr (.inl rfl) | exact .inr (.inr rfl)) (by decide) (by decide)) ea_nil rfl)) (ea_cons (ee_call W.d_is_narrow (ok_is_narrow W k (by omega)) hr rfl (at_of (takes_of rfl rfl rfl rfl)) (ea_cons (ee_var (i := 1) rfl (by first | exact .inl rfl | exact .inr (.inl rfl) | exact .inr (.inr rfl)) (by decide) (by decide)) (ea_cons (ee_tup (ea_cons ee_int (ea_cons ee_int ea_nil rfl) rfl)) ea_nil rfl) rfl)) (ea_cons (ee_call W.d_is_narrow (ok_is_narrow W k (by omega)) hr rfl (at_of (takes_of rfl rfl rfl rfl)) (ea_cons (ee_var (i := 1) rfl (by first | exact .inl rfl | exact .inr (.inl rfl) | exact .inr (.inr rfl)) (by decide) (by decide)) (ea_cons (ee_tup (ea_cons ee_int (ea_cons ee_int (ea_cons ee_int ea_nil rfl) rfl) rfl)) ea_nil rfl) rfl)) (ea_cons (ee_call W.d_is_narrow (ok_is_narrow W k (by omega)) hr rfl (at_of (takes_of rfl rfl rfl rfl)) (ea_cons (ee_var (i := 1) rfl (by first | exact .inl rfl | exact .inr (.inl rfl) | exact .inr (.inr rfl)) (by decide) (by decide)) (ea_cons (ee_tup (ea_cons ee_int (ea_cons ee_int ea_nil rfl) rfl)) ea_nil rfl) rfl)) (ea_cons (ee_call W.d_is_narrow (ok_is_narrow W k (by omega)) hr rfl (at_of (takes_of rfl rfl rfl rfl)) (ea_cons (ee_var (i := 1) rfl (by first | exact .inl rfl | exact .inr (.inl rfl) | exact .inr (.inr rfl)) (by decide) (by decide)) (ea_cons (ee_tup ea_nil) ea_nil rfl) rfl)) ea_nil rfl) rfl) rfl) rfl) rfl) rfl) rfl) rfl) rfl) rfl)) rfl (by first | exact .inl rfl | exact .inr rfl)) (ess_cons (es_set (i := 5) sc_law.nd rfl (by first | exact .inl rfl | exact .inr rfl) (ee_lst (ea_cons (ee_tup (ea_cons (ee_tup (ea_cons ee_int (ea_cons ee_int ea_nil rfl) rfl)) (ea_cons (ee_tup (ea_cons ee_int (ea_cons ee_int ea_nil rfl) rfl)) ea_nil rfl) rfl)) (ea_cons (ee_tup (ea_cons (ee_tup (ea_cons ee_int (ea_cons ee_int ea_nil rfl) rfl)) (ea_cons (ee_tup (ea_cons ee_int (ea_cons ee_int ea_nil rfl) rfl)) ea_nil rfl) rfl)) (ea_cons (ee_tup (ea_cons (ee_tup (ea_cons ee_int ea_nil rfl)) (ea_cons (ee_tup (ea_cons ee_int ea_nil rfl)) ea_nil rfl) rfl)) (ea_cons (ee_tup (ea_cons (ee_tup (ea_cons ee_int ea_nil rfl)) (ea_cons (ee_tup ea_nil) ea_nil rfl) rfl)) (ea_cons (ee_tup (ea_cons ee_int (ea_cons ee_int ea_nil rfl) rfl)) (ea_cons (ee_tup (ea_cons ee_int ea_nil rfl)) (ea_cons ee_bl (ea_cons ee_bl (ea_cons ee_bl (ea_cons ee_bl ea_nil rfl) rfl) rfl) rfl) rfl) rfl) rfl) rfl) rfl) rfl)) rfl (by first | exact .inl rfl | exact .inr rfl)) (ess_cons (es_if (et_not (et_truth (ee_call W.d__law_same (ok__law_same W 12 k (by omega)) hr rfl (at_of (takes_of rfl rfl rfl rfl)) (ea_cons (ee_var (i := 4) rfl (by first | exact .inl rfl | exact .inr (.inl rfl) | exact .inr (.inr rfl)) (by decide) (by decide)) (ea_cons (ee_var (i := 5) rfl (by first | exact .inl rfl | exact .inr (.inl rfl) | exact .inr (.inr rfl)) (by decide) (by decide)) ea_nil rfl) rfl)) (fun _ => rfl))) (ess_one (es_ret ee_bl)) ess_nil) (ess_cons (es_set (i := 6) sc_law.nd rfl (by first | exact .inl rfl | exact .inr rfl) (ee_lst (ea_cons (ee_tup (ea_cons (ee_tup (ea_cons ee_int (ea_cons ee_int ea_nil rfl) rfl)) (ea_cons (ee_tup (ea_cons ee_int (ea_cons ee_int ea_nil rfl) rfl)) ea_nil rfl) rfl)) (ea_cons (ee_tup (ea_cons (ee_tup (ea_cons ee_int (ea_cons ee_int ea_nil rfl) rfl)) ea_nil rfl)) (ea_cons (ee_tup ea_nil) (ea_cons (ee_tup (ea_cons (ee_tup (ea_cons ee_int (ea_cons ee_int ea_nil rfl) rfl)) (ea_cons (ee_tup (ea_cons ee_int (ea_cons ee_int ea_nil rfl) rfl)) ea_nil rfl) rfl)) (ea_cons (ee_tup (ea_cons (ee_tup (ea_cons ee_int (ea_cons ee_int ea_nil rfl) rfl)) ea_nil rfl)) (ea_cons (ee_tup (ea_cons (ee_tup (ea_cons ee_int (ea_cons ee_int ea_nil rfl) rfl)) (ea_cons (ee_tup (ea_cons ee_int (ea_cons ee_int ea_nil rfl) rfl)) ea_nil rfl) rfl)) (ea_cons (ee_tup (ea_cons (ee_tup (ea_cons ee_int (ea_cons ee_int ea_nil rfl) rfl)) (ea_cons (ee_tup (ea_cons ee_int (ea_cons ee_int ea_nil rfl) rfl)) ea_nil rfl) rfl)) (ea_cons (ee_lst (ea_cons (ee_tup (ea_cons ee_int (ea_cons ee_int ea_nil rfl) rfl)) ea_nil rfl)) (ea_cons (ee_tup (ea_cons (ee_lst (ea_cons ee_int (ea_cons ee_int ea_nil rfl) rfl)) ea_nil rfl)) (ea_cons (ee_tup (ea_cons (ee_tup (ea_cons ee_int (ea_cons ee_int (ea_cons ee_int ea_nil rfl) rfl) rfl)) ea_nil rfl)) (ea_cons (ee_tup (ea_cons (ee_tup (ea_cons ee_int (ea_cons ee_int ea_nil rfl) rfl)) ea_nil rfl)) (ea_cons (ee_tup (ea_cons (ee_tup (ea_cons ee_bl (ea_cons ee_int ea_nil rfl) rfl)) ea_nil rfl)) (ea_cons ee_non (ea_cons (ee_tup (ea_cons (ee_tup (ea_cons ee_int (ea_cons ee_int ea_nil rfl) rfl)) (ea_cons (ee_tup (ea_cons ee_int (ea_cons ee_int ea_nil rfl) rfl)) ea_nil rfl) rfl)) ea_nil rfl) rfl) rfl) rfl) rfl) rfl) rfl) rfl) rfl) rfl) rfl) rfl) rfl) rfl)) rfl (by first | exact .inl rfl | exact .inr rfl)) (ess_cons (es_if (PW.pt (ew_or (et_cmp (op_neD (room_eq hr)) co_ne (ee_L (el_lcX (own := [("own", 12)]) (t := .nm 12) 3000 rfl sc_law.nd (pas_of (takes_of rfl rfl rfl rfl) rfl rfl) (ei_seqd rfl (ee_var (i := 6) rfl (by first | exact .inl rfl | exact .inr (.inl rfl) | exact .inr (.inr rfl)) (by decide) (by decide))) (blkOk_by (by kernel_rfl)) (by decide) (fun s H C cl fp xe E pb => ⟨(eg_nm (i := 12) sc_law.nd rfl (by first | exact .inl rfl | exact .inr rfl) (by first | exact .inl rfl | exact .inr rfl)), et_yes, (ee_call W.d_is_matching (ok_is_matching W k (by omega)) hr rfl pb.call (ea_cons (ee_var (i := 1) rfl (by first | exact .inl rfl | exact .inr (.inl rfl) | exact .inr (.inr rfl)) (by decide) (by decide)) (ea_cons (ee_var (i := 12) rfl (by first | exact .inl rfl | exact .inr (.inl rfl) | exact .inr (.inr rfl)) (by decide) (by decide)) ea_nil rfl) rfl))⟩))) (ee_op or_add bo_add (ee_lst (ea_cons ee_bl (ea_cons ee_bl (ea_cons ee_bl ea_nil rfl) rfl) rfl)) (ee_op or_mulE bo_mulE (ee_lst (ea_cons ee_bl ea_nil rfl)) ee_int)) rfl) (ew_or1 (et_cmp (op_neD (room_eq hr)) co_ne (ee_L (el_lcX (own := [("own", 12)]) (t := .nm 12) 3000 rfl sc_law.nd (pas_of (takes_of rfl rfl rfl rfl) rfl rfl) (ei_seqd rfl (ee_var (i := 6) rfl (by first | exact .inl rfl | exact .inr (.inl rfl) | exact .inr (.inr rfl)) (by decide) (by decide))) (blkOk_by (by kernel_rfl)) (by decide) (fun s H C cl fp xe E pb => ⟨(eg_nm (i := 12) sc_law.nd rfl (by first | exact .inl rfl | exact .inr rfl) (by first | exact .inl rfl | exact .inr rfl)), et_yes, (ee_call W.d_is_greatest (ok_is_greatest W k (by omega)) hr rfl pb.call (ea_cons (ee_var (i := 1) rfl (by first | exact .inl rfl | exact .inr (.inl rfl) | exact .inr (.inr rfl)) (by decide) (by decide)) (ea_cons (ee_var (i := 12) rfl (by first | exact .inl rfl | exact .inr (.inl rfl) | exact .inr (.inr rfl)) (by decide) (by decide)) ea_nil rfl) rfl))⟩))) (ee_op or_add bo_add (ee_lst (ea_cons ee_bl ea_nil rfl)) (ee_op or_mulE bo_mulE (ee_lst (ea_cons ee_bl ea_nil rfl)) ee_int)) rfl)))) (ess_one (es_ret ee_bl)) ess_nil) (ess_cons (es_set (i := 6) sc_law.nd rfl (by first | exact .inl rfl | exact .inr rfl) (ee_lst (ea_cons (ee_tup (ea_cons (ee_tup ea_nil) (ea_cons (ee_tup (ea_cons ee_int (ea_cons ee_int ea_nil rfl) rfl)) ea_nil rfl) rfl)) (ea_cons (ee_tup (ea_cons (ee_tup (ea_cons ee_int (ea_cons ee_int (ea_cons ee_int ea_nil rfl) rfl) rfl)) (ea_cons (ee_tup ea_nil) ea_nil rfl) rfl)) (ea_cons (ee_tup (ea_cons (ee_tup (ea_cons ee_int ea_nil rfl)) (ea_cons (ee_tup (ea_cons ee_int ea_nil rfl)) ea_nil rfl) rfl)) (ea_cons (ee_tup (ea_cons (ee_tup (ea_cons ee_int ea_nil rfl)) (ea_cons (ee_tup (ea_cons ee_int ea_nil rfl)) ea_nil rfl) rfl)) (ea_cons (ee_tup (ea_cons (ee_tup ea_nil) (ea_cons (ee_tup (ea_cons ee_int ea_nil rfl)) ea_nil rfl) rfl)) (ea_cons (ee_tup (ea_cons (ee_tup (ea_cons ee_int (ea_cons ee_int ea_nil rfl) rfl)) (ea_cons (ee_tup ea_nil) ea_nil rfl) rfl)) (ea_cons (ee_tup (ea_cons (ee_tup (ea_cons ee_int ea_nil rfl)) (ea_cons (ee_tup (ea_cons ee_int ea_nil rfl)) (ea_cons (ee_tup ea_nil) ea_nil rfl) rfl) rfl)) (ea_cons (ee_tup (ea_cons (ee_tup (ea_cons ee_int (ea_cons ee_int (ea_cons ee_int ea_nil rfl) rfl) rfl)) (ea_cons (ee_tup ea_nil) ea_nil rfl) rfl)) (ea_cons (ee_tup (ea_cons (ee_tup ea_nil) (ea_cons (ee_tup (ea_cons ee_int (ea_cons ee_int (ea_cons ee_int ea_nil rfl) rfl) rfl)) ea_nil rfl) rfl)) (ea_cons (ee_lst (ea_cons (ee_tup ea_nil) (ea_cons (ee_tup (ea_cons ee_int (ea_cons ee_int ea_nil rfl) rfl)) ea_nil rfl) rfl)) (ea_cons (ee_tup (ea_cons (ee_tup ea_nil) (ea_cons (ee_tup (ea_cons ee_int (ea_cons ee_int ea_nil rfl) rfl)) ea_nil rfl) rfl)) (ea_cons (ee_tup (ea_cons ee_int (ea_cons ee_int ea_nil rfl) rfl)) ea_nil rfl) rfl) rfl) rfl) rfl) rfl) rfl) rfl) rfl) rfl) rfl) rfl)) rfl (by first | exact .inl rfl | exact .inr rfl)) (ess_cons (es_if (et_cmp (op_neD (room_eq hr)) co_ne (ee_L (el_lcX (own := [("own", 12)]) (t := .nm 12) 3000 rfl sc_law.nd (pas_of (takes_of rfl rfl rfl rfl) rfl rfl) (ei_seqd rfl (ee_var (i := 6) rfl (by first | exact .inl rfl | exact .inr (.inl rfl) | exact .inr (.inr rfl)) (by decide) (by decide))) (blkOk_by (by kernel_rfl)) (by decide) (fun s H C cl fp xe E pb => ⟨(eg_nm (i := 12) sc_law.nd rfl (by first | exact .inl rfl | exact .inr rfl) (by first | exact .inl rfl | exact .inr rfl)), et_yes, (ee_call W.d_is_cover (ok_is_cover W k (by omega)) hr rfl pb.call (ea_cons (ee_var (i := 1) rfl (by first | exact .inl rfl | exact .inr (.inl rfl) | exact .inr (.inr rfl)) (by decide) (by decide)) (ea_cons (ee_var (i := 12) rfl (by first | exact .inl rfl | exact .inr (.inl rfl) | exact .inr (.inr rfl)) (by decide) (by decide)) ea_nil rfl) rfl))⟩))) (ee_lst (ea_cons ee_bl (ea_cons ee_bl (ea_cons ee_bl (ea_cons ee_bl (ea_cons ee_bl (ea_cons ee_bl (ea_cons ee_bl (ea_cons ee_bl (ea_cons ee_bl (ea_cons ee_bl (ea_cons ee_bl (ea_cons ee_bl ea_nil rfl) rfl) rfl) rfl) rfl) rfl) rfl) rfl) rfl) rfl) rfl) rfl)) rfl) (ess_one (es_ret ee_bl)) ess_nil) (ess_cons (es_set (i := 7) sc_law.nd rfl (by first | exact .inl rfl | exact .inr rfl) (ee_lst (ea_cons (ee_tup (ea_cons (ee_tup (ea_cons (ee_tup (ea_cons ee_int (ea_cons ee_int ea_nil rfl) rfl)) (ea_cons (ee_tup (ea_cons ee_int (ea_cons ee_int ea_nil rfl) rfl)) ea_nil rfl) rfl)) (ea_cons (ee_tup (ea_cons (ee_tup ea_nil) (ea_cons (ee_tup (ea_cons ee_int (ea_cons ee_int ea_nil rfl) rfl)) ea_nil rfl) rfl)) ea_nil rfl) rfl)) (ea_cons (ee_tup (ea_cons (ee_tup (ea_cons (ee_tup (ea_cons ee_int (ea_cons ee_int ea_nil rfl) rfl)) (ea_cons (ee_tup (ea_cons ee_int (ea_cons ee_int ea_nil rfl) rfl)) ea_nil rfl) rfl)) (ea_cons (ee_tup (ea_cons (ee_tup (ea_cons ee_int ea_nil rfl)) (ea_cons (ee_tup (ea_cons ee_int ea_nil rfl)) ea_nil rfl) rfl)) ea_nil rfl) rfl)) (ea_cons (ee_tup (ea_cons (ee_tup (ea_cons (ee_tup (ea_cons ee_int (ea_cons ee_int ea_nil rfl) rfl)) ea_nil rfl)) (ea_cons (ee_tup (ea_cons (ee_tup ea_nil) (ea_cons (ee_tup (ea_cons ee_int (ea_cons ee_int ea_nil rfl) rfl)) ea_nil rfl) rfl)) ea_nil rfl) rfl)) (ea_cons (ee_tup (ea_cons (ee_tup (ea_cons (ee_tup (ea_cons ee_int (ea_cons ee_int ea_nil rfl) rfl)) (ea_cons (ee_tup (ea_cons ee_int (ea_cons ee_int ea_nil rfl) rfl)) ea_nil rfl) rfl)) (ea_cons (ee_tup (ea_cons (ee_tup (ea_cons ee_int (ea_cons ee_int (ea_cons ee_int ea_nil rfl) rfl) rfl)) (ea_cons (ee_tup ea_nil) ea_nil rfl) rfl)) ea_nil rfl) rfl)) (ea_cons (ee_tup (ea_cons (ee_tup (ea_cons (ee_tup (ea_cons ee_int (ea_cons ee_int ea_nil rfl) rfl)) (ea_cons (ee_tup (ea_cons ee_int (ea_cons ee_int ea_nil rfl) rfl)) ea_nil rfl) rfl)) ea_nil rfl)) (ea_cons (ee_lst (ea_cons (ee_tup (ea_cons (ee_tup (ea_cons ee_int (ea_cons ee_int ea_nil rfl) rfl)) (ea_cons (ee_tup (ea_cons ee_int (ea_cons ee_int ea_nil rfl) rfl)) ea_nil rfl) rfl)) (ea_cons (ee_tup (ea_cons (ee_tup ea_nil) (ea_cons (ee_tup (ea_cons ee_int (ea_cons ee_int ea_nil rfl) rfl)) ea_nil rfl) rfl)) ea_nil rfl) rfl)) ea_nil rfl) rfl) rfl) rfl) rfl) rfl)) rfl (by first | exact .inl rfl | exact .inr rfl)) (ess_cons (es_if (PW.pt (ew_or (et_cmp (op_neD (room_eq hr)) co_ne (ee_L (el_lcX (own := [("own", 12)]) (t := .nm 12) 3000 rfl sc_law.nd (pas_of (takes_of rfl rfl rfl rfl) rfl rfl) (ei_seqd rfl (ee_var (i := 7) rfl (by first | exact .inl rfl | exact .inr (.inl rfl) | exact .inr (.inr rfl)) (by decide) (by decide))) (blkOk_by (by kernel_rfl)) (by decide) (fun s H C cl fp xe E pb => ⟨(eg_nm (i := 12) sc_law.nd rfl (by first | exact .inl rfl | exact .inr rfl) (by first | exact .inl rfl | exact .inr rfl)), et_yes, (ee_call W.d_is_rank_paper (ok_is_rank_paper W k (by omega)) hr rfl pb.call (ea_cons (ee_var (i := 1) rfl (by first | exact .inl rfl | exact .inr (.inl rfl) | exact .inr (.inr rfl)) (by decide) (by decide)) (ea_cons (ee_var (i := 12) rfl (by first | exact .inl rfl | exact .inr (.inl rfl) | exact .inr (.inr rfl)) (by decide) (by decide)) ea_nil rfl) rfl))⟩))) (ee_lst (ea_cons ee_bl (ea_cons ee_bl (ea_cons ee_bl (ea_cons ee_bl (ea_cons ee_bl (ea_cons ee_bl ea_nil rfl) rfl) rfl) rfl) rfl) rfl)) rfl) (ew_or1 (et_not (et_truth (ee_call W.d_is_rank_paper (ok_is_rank_paper W k (by omega)) hr rfl (at_of (takes_of rfl rfl rfl rfl)) (ea_cons (ee_var (i := 1) rfl (by first | exact .inl rfl | exact .inr (.inl rfl) | exact .inr (.inr rfl)) (by decide) (by decide)) (ea_cons (ee_call W.d_rank_paper (ok_rank_paper W k (by omega)) hr rfl (at_of (takes_of rfl rfl rfl rfl)) (ea_cons (ee_var (i := 1) rfl (by first | exact .inl rfl | exact .inr (.inl rfl) | exact .inr (.inr rfl)) (by decide) (by decide)) ea_nil rfl)) ea_nil rfl) rfl)) (fun _ => rfl)))))) (ess_one (es_ret ee_bl)) ess_nil) (ess_cons (es_set (i := 8) sc_law.nd rfl (by first | exact .inl rfl | exact .inr rfl) (ee_lst (ea_cons (ee_tup (ea_cons ee_int (ea_cons ee_int (ea_cons ee_int (ea_cons ee_int ea_nil rfl) rfl) rfl) rfl)) (ea_cons (ee_tup (ea_cons ee_int (ea_cons ee_int (ea_cons ee_int (ea_cons ee_int ea_nil rfl) rfl) rfl) rfl)) (ea_cons (ee_tup (ea_cons ee_int (ea_cons ee_int ea_nil rfl) rfl)) (ea_cons (ee_tup (ea_cons ee_int (ea_cons ee_int ea_nil rfl) rfl)) (ea_cons (ee_tup (ea_cons ee_int (ea_cons ee_int (ea_cons ee_int ea_nil rfl) rfl) rfl)) (ea_cons (ee_tup ea_nil) (ea_cons (ee_tup (ea_cons ee_int (ea_cons ee_int (ea_cons ee_int (ea_cons ee_int ea_nil rfl) rfl) rfl) rfl)) (ea_cons (ee_tup (ea_cons ee_int (ea_cons ee_int (ea_cons ee_int (ea_cons ee_int ea_nil rfl) rfl) rfl) rfl)) (ea_cons (ee_lst (ea_cons ee_int (ea_cons ee_int (ea_cons ee_int (ea_cons ee_int ea_nil rfl) rfl) rfl) rfl)) (ea_cons ee_non ea_nil rfl) rfl) rfl) rfl) rfl) rfl) rfl) rfl) rfl) rfl)) rfl (by first | exact .inl rfl | exact .inr rfl)) (ess_cons (es_if (PW.pt (ew_or (et_cmp (op_neD (room_eq hr)) co_ne (ee_L (el_lcX (own := [("own", 12)]) (t := .nm 12) 3000 rfl sc_law.nd (pas_of (takes_of rfl rfl rfl rfl) rfl rfl) (ei_seqd rfl (ee_var (i := 8) rfl (by first | exact .inl rfl | exact .inr (.inl rfl) | exact .inr (.inr rfl)) (by decide) (by decide))) (blkOk_by (by kernel_rfl)) (by decide) (fun s H C cl fp xe E pb => ⟨(eg_nm (i := 12) sc_law.nd rfl (by first | exact .inl rfl | exact .inr rfl) (by first | exact .inl rfl | exact .inr rfl)), et_yes, (ee_call W.d_is_longer_way (ok_is_longer_way W k (by omega)) hr rfl pb.call (ea_cons (ee_var (i := 1) rfl (by first | exact .inl rfl | exact .inr (.inl rfl) | exact .inr (.inr rfl)) (by decide) (by decide)) (ea_cons (ee_tup (ea_cons (ee_tup (ea_cons ee_int (ea_cons ee_int ea_nil rfl) rfl)) ea_nil rfl)) (ea_cons (ee_var (i := 12) rfl (by first | exact .inl rfl | exact .inr (.inl rfl) | exact .inr (.inr rfl)) (by decide) (by decide)) ea_nil rfl) rfl) rfl))⟩))) (ee_op or_add bo_add (ee_lst (ea_cons ee_bl (ea_cons ee_bl ea_nil rfl) rfl)) (ee_op or_mulE bo_mulE (ee_lst (ea_cons ee_bl ea_nil rfl)) ee_int)) rfl) (ew_or1 (et_not (et_truth (ee_call W.d_is_longer_way (ok_is_longer_way W k (by omega)) hr rfl (at_of (takes_of rfl rfl rfl rfl)) (ea_cons (ee_var (i := 1) rfl (by first | exact .inl rfl | exact .inr (.inl rfl) | exact .inr (.inr rfl)) (by decide) (by decide)) (ea_cons (ee_lst (ea_cons (ee_lst (ea_cons ee_int (ea_cons ee_int ea_nil rfl) rfl)) ea_nil rfl)) (ea_cons (ee_call W.d_longer_way (ok_longer_way W k (by omega)) hr rfl (at_of (takes_of rfl rfl rfl rfl)) (ea_cons (ee_var (i := 1) rfl (by first | exact .inl rfl | exact .inr (.inl rfl) | exact .inr (.inr rfl)) (by decide) (by decide)) (ea_cons (ee_lst (ea_cons (ee_lst (ea_cons ee_int (ea_cons ee_int ea_nil rfl) rfl)) ea_nil rfl)) ea_nil rfl) rfl)) ea_nil rfl) rfl) rfl)) (fun _ => rfl)))))) (ess_one (es_ret ee_bl)) ess_nil) (ess_cons (es_if (et_cmp (op_neD (room_eq hr)) co_ne (ee_L (el_lcX (own := [("own", 12)]) (t := .nm 12) 3000 rfl sc_law.nd (pas_of (takes_of rfl rfl rfl rfl) rfl rfl) (ei_seqd rfl (ee_tup (ea_cons (ee_tup (ea_cons ee_int (ea_cons ee_int ea_nil rfl) rfl)) (ea_cons (ee_tup (ea_cons ee_int (ea_cons ee_int ea_nil rfl) rfl)) (ea_cons (ee_tup (ea_cons ee_int (ea_cons ee_int ea_nil rfl) rfl)) (ea_cons (ee_tup (ea_cons ee_int (ea_cons ee_int ea_nil rfl) rfl)) (ea_cons (ee_tup (ea_cons ee_int (ea_cons ee_int ea_nil rfl) rfl)) (ea_cons (ee_tup (ea_cons ee_int (ea_cons ee_int (ea_cons ee_int (ea_cons ee_int ea_nil rfl) rfl) rfl) rfl)) ea_nil rfl) rfl) rfl) rfl) rfl) rfl))) (blkOk_by (by kernel_rfl)) (by decide) (fun s H C cl fp xe E pb => ⟨(eg_nm (i := 12) sc_law.nd rfl (by first | exact .inl rfl | exact .inr rfl) (by first | exact .inl rfl | exact .inr rfl)), et_yes, (ee_call W.d_is_longer_way (ok_is_longer_way W k (by omega)) hr rfl pb.call (ea_cons (ee_var (i := 1) rfl (by first | exact .inl rfl | exact .inr (.inl rfl) | exact .inr (.inr rfl)) (by decide) (by decide)) (ea_cons (ee_tup ea_nil) (ea_cons (ee_var (i := 12) rfl (by first | exact .inl rfl | exact .inr (.inl rfl) | exact .inr (.inr rfl)) (by decide) (by decide)) ea_nil rfl) rfl) rfl))⟩))) (ee_lst (ea_cons ee_bl (ea_cons ee_bl (ea_cons ee_bl (ea_cons ee_bl (ea_cons ee_bl (ea_cons ee_bl ea_nil rfl) rfl) rfl) rfl) rfl) rfl)) rfl) (ess_one (es_ret ee_bl)) ess_nil) (ess_cons (es_set (i := 9) sc_law.nd rfl (by first | exact .inl rfl | exact .inr rfl) (ee_lst (ea_cons (ee_tup (ea_cons ee_int (ea_cons (ee_tup (ea_cons (ee_tup (ea_cons ee_int (ea_cons ee_int (ea_cons ee_int ea_nil rfl) rfl) rfl)) (ea_cons (ee_tup (ea_cons ee_int (ea_cons ee_int (ea_cons ee_int ea_nil rfl) rfl) rfl)) (ea_cons (ee_tup (ea_cons ee_int (ea_cons ee_int (ea_cons ee_int ea_nil rfl) rfl) rfl)) ea_nil rfl) rfl) rfl)) ea_nil rfl) rfl)) (ea_cons (ee_tup (ea_cons ee_int (ea_cons (ee_tup (ea_cons (ee_tup (ea_cons ee_int (ea_cons ee_int (ea_cons ee_int ea_nil rfl) rfl) rfl)) (ea_cons (ee_tup (ea_cons ee_int (ea_cons (ee_neg ee_int) (ea_cons ee_int ea_nil rfl) rfl) rfl)) (ea_cons (ee_tup (ea_cons ee_int (ea_cons ee_int (ea_cons ee_int ea_nil rfl) rfl) rfl)) ea_nil rfl) rfl) rfl)) ea_nil rfl) rfl)) (ea_cons (ee_tup (ea_cons ee_int (ea_cons (ee_tup (ea_cons (ee_tup (ea_cons ee_int (ea_cons ee_int (ea_cons ee_int ea_nil rfl) rfl) rfl)) (ea_cons (ee_tup (ea_cons ee_int (ea_cons ee_int (ea_cons ee_int ea_nil rfl) rfl) rfl)) (ea_cons (ee_tup (ea_cons ee_int (ea_cons ee_int (ea_cons ee_int ea_nil rfl) rfl) rfl)) ea_nil rfl) rfl) rfl)) ea_nil rfl) rfl)) (ea_cons (ee_tup (ea_cons ee_int (ea_cons (ee_tup (ea_cons (ee_tup (ea_cons ee_int (ea_cons ee_int (ea_cons ee_int ea_nil rfl) rfl) rfl)) (ea_cons (ee_tup (ea_cons ee_int (ea_cons ee_int (ea_cons ee_int ea_nil rfl) rfl) rfl)) (ea_cons (ee_tup (ea_cons ee_int (ea_cons ee_int (ea_cons ee_int ea_nil rfl) rfl) rfl)) ea_nil rfl) rfl) rfl)) ea_nil rfl) rfl)) (ea_cons (ee_tup (ea_cons ee_int (ea_cons (ee_tup (ea_cons (ee_tup (ea_cons ee_int (ea_cons ee_int ea_nil rfl) rfl)) (ea_cons (ee_tup (ea_cons ee_int (ea_cons ee_int ea_nil rfl) rfl)) (ea_cons (ee_tup (ea_cons ee_int (ea_cons ee_int ea_nil rfl) rfl)) ea_nil rfl) rfl) rfl)) ea_nil rfl) rfl)) (ea_cons (ee_lst (ea_cons ee_int (ea_cons (ee_tup (ea_cons (ee_tup (ea_cons ee_int (ea_cons ee_int (ea_cons ee_int ea_nil rfl) rfl) rfl)) (ea_cons (ee_tup (ea_cons ee_int (ea_cons ee_int (ea_cons ee_int ea_nil rfl) rfl) rfl)) (ea_cons (ee_tup (ea_cons ee_int (ea_cons ee_int (ea_cons ee_int ea_nil rfl) rfl) rfl)) ea_nil rfl) rfl) rfl)) ea_nil rfl) rfl)) ea_nil rfl) rfl) rfl) rfl) rfl) rfl)) rfl (by first | exact .inl rfl | exact .inr rfl)) (ess_cons (es_if (PW.pt (ew_or (et_cmp (op_neD (room_eq hr)) co_ne (ee_L (el_lcX (own := [("own", 12)]) (t := .nm 12) 3000 rfl sc_law.nd (pas_of (takes_of rfl rfl rfl rfl) rfl rfl) (ei_seqd rfl (ee_var (i := 9) rfl (by first | exact .inl rfl | exact .inr (.inl rfl) | exact .inr (.inr rfl)) (by decide) (by decide))) (blkOk_by (by kernel_rfl)) (by decide) (fun s H C cl fp xe E pb => ⟨(eg_nm (i := 12) sc_law.nd rfl (by first | exact .inl rfl | exact .inr rfl) (by first | exact .inl rfl | exact .inr rfl)), et_yes, (ee_call W.d_is_whole_table (ok_is_whole_table W k (by omega)) hr rfl pb.call (ea_cons (ee_var (i := 1) rfl (by first | exact .inl rfl | exact .inr (.inl rfl) | exact .inr (.inr rfl)) (by decide) (by decide)) (ea_cons (ee_var (i := 12) rfl (by first | exact .inl rfl | exact .inr (.inl rfl) | exact .inr (.inr rfl)) (by decide) (by decide)) ea_nil rfl) rfl))⟩))) (ee_op or_add bo_add (ee_lst (ea_cons ee_bl (ea_cons ee_bl ea_nil rfl) rfl)) (ee_op or_mulE bo_mulE (ee_lst (ea_cons ee_bl ea_nil rfl)) ee_int)) rfl) (ew_or1 (et_cmp (op_neD (room_eq hr)) co_ne (ee_L (el_lcX (own := [("own", 12)]) (t := .nm 12) 3000 rfl sc_law.nd (pas_of (takes_of rfl rfl rfl rfl) rfl rfl) (ei_seqd rfl (ee_tup (ea_cons (ee_tup (ea_cons ee_int (ea_cons (ee_tup (ea_cons (ee_tup (ea_cons ee_int (ea_cons ee_int ea_nil rfl) rfl)) (ea_cons (ee_tup (ea_cons ee_int (ea_cons ee_int ea_nil rfl) rfl)) ea_nil rfl) rfl)) ea_nil rfl) rfl)) (ea_cons (ee_tup (ea_cons ee_int (ea_cons (ee_tup (ea_cons (ee_tup (ea_cons ee_int (ea_cons ee_int ea_nil rfl) rfl)) (ea_cons (ee_tup (ea_cons ee_int (ea_cons ee_int ea_nil rfl) rfl)) ea_nil rfl) rfl)) ea_nil rfl) rfl)) ea_nil rfl) rfl))) (blkOk_by (by kernel_rfl)) (by decide) (fun s H C cl fp xe E pb => ⟨(eg_nm (i := 12) sc_law.nd rfl (by first | exact .inl rfl | exact .inr rfl) (by first | exact .inl rfl | exact .inr rfl)), et_yes, (ee_call W.d_is_whole_table (ok_is_whole_table W k (by omega)) hr rfl pb.call (ea_cons (ee_var (i := 2) rfl (by first | exact .inl rfl | exact .inr (.inl rfl) | exact .inr (.inr rfl)) (by decide) (by decide)) (ea_cons (ee_var (i := 12) rfl (by first | exact .inl rfl | exact .inr (.inl rfl) | exact .inr (.inr rfl)) (by decide) (by decide)) ea_nil rfl) rfl))⟩))) (ee_lst (ea_cons ee_bl (ea_cons ee_bl ea_nil rfl) rfl)) rfl)))) (ess_one (es_ret ee_bl)) ess_nil) (ess_cons (es_for 3000 (passes_of rfl) rfl (ei_seqd rfl (ee_tup (ea_cons (ee_var (i := 1) rfl (by first | exact .inl rfl | exact .inr (.inl rfl) | exact .inr (.inr rfl)) (by decide) (by decide)) (ea_cons (ee_var (i := 2) rfl (by first | exact .inl rfl | exact .inr (.inl rfl) | exact .inr (.inr rfl)) (by decide) (by decide)) (ea_cons (ee_var (i := 3) rfl (by first | exact .inl rfl | exact .inr (.inl rfl) | exact .inr (.inr rfl)) (by decide) (by decide)) (ea_cons (ee_tup (ea_cons ee_int (ea_cons (ee_tup (ea_cons (ee_tup ea_nil) ea_nil rfl)) ea_nil rfl) rfl)) (ea_cons (ee_tup (ea_cons ee_int (ea_cons (ee_tup ea_nil) ea_nil rfl) rfl)) ea_nil rfl) rfl) rfl) rfl) rfl))) (eg_nm (i := 10) sc_law.nd rfl (by first | exact .inl rfl | exact .inr rfl) (by first | exact .inl rfl | exact .inr rfl)) (ess_one (es_if (PW.pt (ew_or (et_not (et_truth (ee_call W.d_is_whole_table (ok_is_whole_table W k (by omega)) hr rfl (at_of (takes_of rfl rfl rfl rfl)) (ea_cons (ee_var (i := 10) rfl (by first | exact .inl rfl | exact .inr (.inl rfl) | exact .inr (.inr rfl)) (by decide) (by decide)) (ea_cons (ee_call W.d_whole_table (ok_whole_table W k (by omega)) hr rfl (at_of (takes_of rfl rfl rfl rfl)) (ea_cons (ee_call W.d__law_lists (ok__law_lists W 12 k (by omega)) hr rfl (at_of (takes_of rfl rfl rfl rfl)) (ea_cons (ee_var (i := 10) rfl (by first | exact .inl rfl | exact .inr (.inl rfl) | exact .inr (.inr rfl)) (by decide) (by decide)) ea_nil rfl)) ea_nil rfl)) ea_nil rfl) rfl)) (fun _ => rfl))) (ew_or1 (et_not (et_truth (ee_call W.d_is_rank_paper (ok_is_rank_paper W k (by omega)) hr rfl (at_of (takes_of rfl rfl rfl rfl)) (ea_cons (ee_var (i := 10) rfl (by first | exact .inl rfl | exact .inr (.inl rfl) | exact .inr (.inr rfl)) (by decide) (by decide)) (ea_cons (ee_call W.d_rank_paper (ok_rank_paper W k (by omega)) hr rfl (at_of (takes_of rfl rfl rfl rfl)) (ea_cons (ee_var (i := 10) rfl (by first | exact .inl rfl | exact .inr (.inl rfl) | exact .inr (.inr rfl)) (by decide) (by decide)) ea_nil rfl)) ea_nil rfl) rfl)) (fun _ => rfl)))))) (ess_one (es_ret ee_bl)) ess_nil))) (ess_cons (es_set (i := 4) sc_law.nd rfl (by first | exact .inl rfl | exact .inr rfl) (ee_lst (ea_cons (ee_call W.d__law_heard (ok__law_heard W k (by omega)) hr rfl (at_of (takes_of rfl rfl rfl rfl)) (ea_cons ee_int (ea_cons (ee_var (i := 1) rfl (by first | exact .inl rfl | exact .inr (.inl rfl) | exact .inr (.inr rfl)) (by decide) (by decide)) (ea_cons (ee_tup (ea_cons (ee_tup (ea_cons ee_int (ea_cons ee_int ea_nil rfl) rfl)) (ea_cons (ee_tup (ea_cons ee_int (ea_cons ee_int ea_nil rfl) rfl)) ea_nil rfl) rfl)) ea_nil rfl) rfl) rfl)) (ea_cons (ee_call W.d__law_heard (ok__law_heard W k (by omega)) hr rfl (at_of (takes_of rfl rfl rfl rfl)) (ea_cons ee_int (ea_cons (ee_var (i := 2) rfl (by first | exact .inl rfl | exact .inr (.inl rfl) | exact .inr (.inr rfl)) (by decide) (by decide)) (ea_cons (ee_tup ea_nil) ea_nil rfl) rfl) rfl)) (ea_cons (ee_call W.d__law_heard (ok__law_heard W k (by omega)) hr rfl (at_of (takes_of rfl rfl rfl rfl)) (ea_cons ee_int (ea_cons (ee_var (i := 3) rfl (by first | exact .inl rfl | exact .inr (.inl rfl) | exact .inr (.inr rfl)) (by decide) (by decide)) (ea_cons (ee_tup ea_nil) ea_nil rfl) rfl) rfl)) (ea_cons (ee_callK0 W.d_matching rfl (kb_of (ks := ["pattern"]) (nu := 0) (arr := [0]) W.d_matching.F (fun _ _ _ _ _ _ us ws h1 h2 => match us, ws, h1, h2 with | [], [_], _, _ => rfl)) (ok_matching W k (by omega)) hr rfl (at_of (takes_of rfl rfl rfl rfl)) (ek_cons (ee_lst (ea_cons ee_int (ea_cons (ee_lst (ea_cons (ee_lst (ea_cons ee_int ea_nil rfl)) ea_nil rfl)) ea_nil rfl) rfl)) ek_nil)) (ea_cons (ee_callK0 W.d_is_narrow rfl (kb_of (ks := ["pattern", "rows"]) (nu := 0) (arr := [0, 1]) W.d_is_narrow.F (fun _ _ _ _ _ _ us ws h1 h2 => match us, ws, h1, h2 with | [], [_, _], _, _ => rfl)) (ok_is_narrow W k (by omega)) hr rfl (at_of (takes_of rfl rfl rfl rfl)) (ek_cons (ee_var (i := 2) rfl (by first | exact .inl rfl | exact .inr (.inl rfl) | exact .inr (.inr rfl)) (by decide) (by decide)) (ek_cons (ee_lst (ea_cons ee_int ea_nil rfl)) ek_nil))) (ea_cons (ee_callK0 W.d_is_matching rfl (kb_of (ks := ["pattern", "thing"]) (nu := 0) (arr := [0, 1]) W.d_is_matching.F (fun _ _ _ _ _ _ us ws h1 h2 => match us, ws, h1, h2 with | [], [_, _], _, _ => rfl)) (ok_is_matching W k (by omega)) hr rfl (at_of (takes_of rfl rfl rfl rfl)) (ek_cons (ee_var (i := 2) rfl (by first | exact .inl rfl | exact .inr (.inl rfl) | exact .inr (.inr rfl)) (by decide) (by decide)) (ek_cons (ee_tup ea_nil) ek_nil))) (ea_cons (ee_callK0 W.d_is_longer_way rfl (kb_of (ks := ["pattern", "told", "thing"]) (nu := 0) (arr := [0, 1, 2]) W.d_is_longer_way.F (fun _ _ _ _ _ _ us ws h1 h2 => match us, ws, h1, h2 with | [], [_, _, _], _, _ => rfl)) (ok_is_longer_way W k (by omega)) hr rfl (at_of (takes_of rfl rfl rfl rfl)) (ek_cons (ee_var (i := 2) rfl (by first | exact .inl rfl | exact .inr (.inl rfl) | exact .inr (.inr rfl)) (by decide) (by decide)) (ek_cons (ee_tup ea_nil) (ek_cons (ee_tup (ea_cons ee_int (ea_cons ee_int ea_nil rfl) rfl)) ek_nil)))) ea_nil rfl) rfl) rfl) rfl) rfl) rfl) rfl)) rfl (by first | exact .inl rfl | exact .inr rfl)) (ess_cons (es_set (i := 11) sc_law.nd rfl (by first | exact .inl rfl | exact .inr rfl) (ee_lst (ea_cons (ee_callK0 W.d_is_rank_paper rfl (kb_of (ks := ["pattern", "thing"]) (nu := 0) (arr := [0, 1]) W.d_is_rank_paper.F (fun _ _ _ _ _ _ us ws h1 h2 => match us, ws, h1, h2 with | [], [_, _], _, _ => rfl)) (ok_is_rank_paper W k (by omega)) hr rfl (at_of (takes_of rfl rfl rfl rfl)) (ek_cons (ee_var (i := 2) rfl (by first | exact .inl rfl | exact .inr (.inl rfl) | exact .inr (.inr rfl)) (by decide) (by decide)) (ek_cons (ee_tup (ea_cons (ee_tup (ea_cons (ee_tup (ea_cons ee_int (ea_cons ee_int ea_nil rfl) rfl)) (ea_cons (ee_tup (ea_cons ee_int (ea_cons ee_int ea_nil rfl) rfl)) ea_nil rfl) rfl)) (ea_cons (ee_tup (ea_cons (ee_tup ea_nil) (ea_cons (ee_tup (ea_cons ee_int (ea_cons ee_int ea_nil rfl) rfl)) ea_nil rfl) rfl)) ea_nil rfl) rfl)) ek_nil))) (ea_cons (ee_callK0 W.d_is_greatest rfl (kb_of (ks := ["pattern", "thing"]) (nu := 0) (arr := [0, 1]) W.d_is_greatest.F (fun _ _ _ _ _ _ us ws h1 h2 => match us, ws, h1, h2 with | [], [_, _], _, _ => rfl)) (ok_is_greatest W k (by omega)) hr rfl (at_of (takes_of rfl rfl rfl rfl)) (ek_cons (ee_var (i := 2) rfl (by first | exact .inl rfl | exact .inr (.inl rfl) | exact .inr (.inr rfl)) (by decide) (by decide)) (ek_cons (ee_tup (ea_cons (ee_tup (ea_cons ee_int (ea_cons ee_int ea_nil rfl) rfl)) (ea_cons (ee_tup (ea_cons ee_int (ea_cons ee_int ea_nil rfl) rfl)) ea_nil rfl) rfl)) ek_nil))) ea_nil rfl) rfl)) rfl (by first | exact .inl rfl | exact .inr rfl)) (ess_cons (es_set (i := 11) sc_law.nd rfl (by first | exact .inl rfl | exact .inr rfl) (ee_op or_add bo_add (ee_var (i := 11) rfl (by first | exact .inl rfl | exact .inr (.inl rfl) | exact .inr (.inr rfl)) (by decide) (by decide)) (ee_lst (ea_cons (ee_callK0 W.d_matchings_many rfl (kb_of (ks := ["pattern"]) (nu := 0) (arr := [0]) W.d_matchings_many.F (fun _ _ _ _ _ _ us ws h1 h2 => match us, ws, h1, h2 with | [], [_], _, _ => rfl)) (ok_matchings_many W k (by omega)) hr rfl (at_of (takes_of rfl rfl rfl rfl)) (ek_cons (ee_var (i := 2) rfl (by first | exact .inl rfl | exact .inr (.inl rfl) | exact .inr (.inr rfl)) (by decide) (by decide)) ek_nil)) (ea_cons (ee_callK0 W.d_is_cover rfl (kb_of (ks := ["pattern", "thing"]) (nu := 0) (arr := [0, 1]) W.d_is_cover.F (fun _ _ _ _ _ _ us ws h1 h2 => match us, ws, h1, h2 with | [], [_, _], _, _ => rfl)) (ok_is_cover W k (by omega)) hr rfl (at_of (takes_of rfl rfl rfl rfl)) (ek_cons (ee_var (i := 2) rfl (by first | exact .inl rfl | exact .inr (.inl rfl) | exact .inr (.inr rfl)) (by decide) (by decide)) (ek_cons (ee_tup (ea_cons (ee_tup (ea_cons ee_int (ea_cons ee_int ea_nil rfl) rfl)) (ea_cons (ee_tup ea_nil) ea_nil rfl) rfl)) ek_nil))) (ea_cons (ee_callK0 W.d_narrow_rows rfl (kb_of (ks := ["pattern"]) (nu := 0) (arr := [0]) W.d_narrow_rows.F (fun _ _ _ _ _ _ us ws h1 h2 => match us, ws, h1, h2 with | [], [_], _, _ => rfl)) (ok_narrow_rows W k (by omega)) hr rfl (at_of (takes_of rfl rfl rfl rfl)) (ek_cons (ee_var (i := 3) rfl (by first | exact .inl rfl | exact .inr (.inl rfl) | exact .inr (.inr rfl)) (by decide) (by decide)) ek_nil)) ea_nil rfl) rfl) rfl))) rfl (by first | exact .inl rfl | exact .inr rfl)) (ess_cons (es_set (i := 11) sc_law.nd rfl (by first | exact .inl rfl | exact .inr rfl) (ee_op or_add bo_add (ee_var (i := 11) rfl (by first | exact .inl rfl | exact .inr (.inl rfl) | exact .inr (.inr rfl)) (by decide) (by decide)) (ee_lst (ea_cons (ee_call W.d_is_longer_way (ok_is_longer_way W k (by omega)) hr rfl (at_of (takes_of rfl rfl rfl rfl)) (ea_cons (ee_var (i := 2) rfl (by first | exact .inl rfl | exact .inr (.inl rfl) | exact .inr (.inr rfl)) (by decide) (by decide)) (ea_cons (ee_tup ea_nil) (ea_cons (ee_callK0 W.d_longer_way rfl (kb_of (ks := ["pattern", "told"]) (nu := 0) (arr := [0, 1]) W.d_longer_way.F (fun _ _ _ _ _ _ us ws h1 h2 => match us, ws, h1, h2 with | [], [_, _], _, _ => rfl)) (ok_longer_way W k (by omega)) hr rfl (at_of (takes_of rfl rfl rfl rfl)) (ek_cons (ee_var (i := 2) rfl (by first | exact .inl rfl | exact .inr (.inl rfl) | exact .inr (.inr rfl)) (by decide) (by decide)) (ek_cons (ee_tup ea_nil) ek_nil))) ea_nil rfl) rfl) rfl)) (ea_cons (ee_callK0 W.d_is_whole_table rfl (kb_of (ks := ["pattern", "thing"]) (nu := 0) (arr := [0, 1]) W.d_is_whole_table.F (fun _ _ _ _ _ _ us ws h1 h2 => match us, ws, h1, h2 with | [], [_, _], _, _ => rfl)) (ok_is_whole_table W k (by omega)) hr rfl (at_of (takes_of rfl rfl rfl rfl)) (ek_cons (ee_var (i := 2) rfl (by first | exact .inl rfl | exact .inr (.inl rfl) | exact .inr (.inr rfl)) (by decide) (by decide)) (ek_cons (ee_tup (ea_cons ee_int (ea_cons (ee_tup (ea_cons (ee_tup (ea_cons ee_int (ea_cons ee_int ea_nil rfl) rfl)) (ea_cons (ee_tup (ea_cons ee_int (ea_cons ee_int ea_nil rfl) rfl)) ea_nil rfl) rfl)) ea_nil rfl) rfl)) ek_nil))) ea_nil rfl) rfl))) rfl (by first | exact .inl rfl | exact .inr rfl)) (ess_cons (es_if (et_not (et_truth (ee_call W.d__law_same (ok__law_same W 12 k (by omega)) hr rfl (at_of (takes_of rfl rfl rfl rfl)) (ea_cons (ee_var (i := 11) rfl (by first | exact .inl rfl | exact .inr (.inl rfl) | exact .inr (.inr rfl)) (by decide) (by decide)) (ea_cons (ee_lst (ea_cons ee_bl (ea_cons ee_bl (ea_cons ee_int (ea_cons ee_bl (ea_cons (ee_tup (ea_cons ee_int ea_nil rfl)) (ea_cons ee_bl (ea_cons ee_bl ea_nil rfl) rfl) rfl) rfl) rfl) rfl) rfl)) ea_nil rfl) rfl)) (fun _ => rfl))) (ess_one (es_ret ee_bl)) ess_nil) (ess_one (es_ret (ee_and (ee_call W.d__law_same (ok__law_same W 12 k (by omega)) hr rfl (at_of (takes_of rfl rfl rfl rfl)) (ea_cons (ee_var (i := 4) rfl (by first | exact .inl rfl | exact .inr (.inl rfl) | exact .inr (.inr rfl)) (by decide) (by decide)) (ea_cons (ee_lst (ea_cons ee_bl (ea_cons ee_bl (ea_cons ee_bl (ea_cons (ee_tup (ea_cons (ee_tup (ea_cons ee_int (ea_cons ee_int ea_nil rfl) rfl)) ea_nil rfl)) (ea_cons ee_bl (ea_cons ee_bl (ea_cons ee_bl ea_nil rfl) rfl) rfl) rfl) rfl) rfl) rfl)) ea_nil rfl) rfl)) (ee_one (ee_call W.d__law_same (ok__law_same W 12 k (by omega)) hr rfl (at_of (takes_of rfl rfl rfl rfl)) (ea_cons (ee_L (el_lcX (own := [("door", 13)]) (t := .nm 13) 3000 rfl sc_law.nd (pas_of (takes_of rfl rfl rfl rfl) rfl rfl) (ei_rng1 rfl W.n_range (ea_cons ee_int ea_nil rfl)) (blkOk_by (by kernel_rfl)) (by decide) (fun s H C cl fp xe E pb => ⟨(eg_nm (i := 13) sc_law.nd rfl (by first | exact .inl rfl | exact .inr rfl) (by first | exact .inl rfl | exact .inr rfl)), et_yes, (ee_call W.d__law_refused (ok__law_refused W k (by omega)) hr rfl pb.call (ea_cons (ee_var (i := 13) rfl (by first | exact .inl rfl | exact .inr (.inl rfl) | exact .inr (.inr rfl)) (by decide) (by decide)) ea_nil rfl))⟩))) (ea_cons (ee_op or_mulE bo_mulE (ee_lst (ea_cons ee_bl ea_nil rfl)) ee_int) ea_nil rfl) rfl))))))))))))))))))))))))))))))
theorem run_law : good (f_law [.opq] Ah.nil) = true := by decide +kernel
end Lw
namespace Lw
open PySem PySem.Spec L2 Ev
open PyProof.Rows hiding St
set_option maxHeartbeats 0 in
theorem all_mk {l : PySem.W.OpenLaw} {w : World} {K : PySem.W.Frag} {h : Heap} {mg : Str → Option Value} {fa : Addr} (X : K.In h) (G : h.Ns mainGlobals mg) (hfa : mg "law" = some (.ref fa)) {f16 f1 f3 f4 f28 f6 f27 f2 f11 f0 f12 f19 f18 f35 f39 f17 f21 f8 f37 f45 f42 f32 f31 f5 f15 f34 f33 f29 f36 f26 f7 f38 f24 f13 f9 f14 f10 f41 f25 f30 f22 f20 f23 f40 f44 f43 f46 C0 C1 : Addr} {od16 an16 od1 an1 od3 an3 od4 an4 od28 an28 od6 an6 od27 an27 od2 an2 od11 an11 od0 an0 od12 an12 od19 an19 od18 an18 od35 an35 od39 an39 od17 an17 od21 an21 od8 an8 od37 an37 od45 an45 od42 an42 od32 an32 od31 an31 od5 an5 od15 an15 od34 an34 od33 an33 od29 an29 od36 an36 od26 an26 od7 an7 od38 an38 od24 an24 od13 an13 od9 an9 od14 an14 od10 an10 od41 an41 od25 an25 od30 an30 od22 an22 od20 an20 od23 an23 od40 an40 od44 an44 od43 an43 od46 an46 : Option Addr} {sl16 sl1 sl3 sl4 sl28 sl6 sl27 sl2 sl11 sl0 sl12 sl19 sl18 sl35 sl39 sl17 sl21 sl8 sl37 sl45 sl42 sl32 sl31 sl5 sl15 sl34 sl33 sl29 sl36 sl26 sl7 sl38 sl24 sl13 sl9 sl14 sl10 sl41 sl25 sl30 sl22 sl20 sl23 sl40 sl44 sl43 sl46 : Array (Option Value)} {oc16 kV16 dc16 pm16 cd16 ct16 oc1 kV1 dc1 pm1 cd1 ct1 oc3 kV3 dc3 pm3 cd3 ct3 oc4 kV4 dc4 pm4 cd4 ct4 oc28 kV28 dc28 pm28 cd28 ct28 oc6 kV6 dc6 pm6 cd6 ct6 oc27 kV27 dc27 pm27 cd27 ct27 oc2 kV2 dc2 pm2 cd2 ct2 oc11 kV11 dc11 pm11 cd11 ct11 oc0 kV0 dc0 pm0 cd0 ct0 oc12 kV12 dc12 pm12 cd12 ct12 oc19 kV19 dc19 pm19 cd19 ct19 oc18 kV18 dc18 pm18 cd18 ct18 oc35 kV35 dc35 pm35 cd35 ct35 oc39 kV39 dc39 pm39 cd39 ct39 oc17 kV17 dc17 pm17 cd17 ct17 oc21 kV21 dc21 pm21 cd21 ct21 oc8 kV8 dc8 pm8 cd8 ct8 oc37 kV37 dc37 pm37 cd37 ct37 oc45 kV45 dc45 pm45 cd45 ct45 oc42 kV42 dc42 pm42 cd42 ct42 oc32 kV32 dc32 pm32 cd32 ct32 oc31 kV31 dc31 pm31 cd31 ct31 oc5 kV5 dc5 pm5 cd5 ct5 oc15 kV15 dc15 pm15 cd15 ct15 oc34 kV34 dc34 pm34 cd34 ct34 oc33 kV33 dc33 pm33 cd33 ct33 oc29 kV29 dc29 pm29 cd29 ct29 oc36 kV36 dc36 pm36 cd36 ct36 oc26 kV26 dc26 pm26 cd26 ct26 oc7 kV7 dc7 pm7 cd7 ct7 oc38 kV38 dc38 pm38 cd38 ct38 oc24 kV24 dc24 pm24 cd24 ct24 oc13 kV13 dc13 pm13 cd13 ct13 oc9 kV9 dc9 pm9 cd9 ct9 oc14 kV14 dc14 pm14 cd14 ct14 oc10 kV10 dc10 pm10 cd10 ct10 oc41 kV41 dc41 pm41 cd41 ct41 oc25 kV25 dc25 pm25 cd25 ct25 oc30 kV30 dc30 pm30 cd30 ct30 oc22 kV22 dc22 pm22 cd22 ct22 oc20 kV20 dc20 pm20 cd20 ct20 oc23 kV23 dc23 pm23 cd23 ct23 oc40 kV40 dc40 pm40 cd40 ct40 oc44 kV44 dc44 pm44 cd44 ct44 oc43 kV43 dc43 pm43 cd43 ct43 oc46 kV46 dc46 pm46 cd46 ct46 : Value} {t_MARKS t_NOUGHT t_PAIR t_STRONG : Tok}
    (a16 : PySem.W.nsIn K mainGlobals "adjoined" = some (some (.ref f16)))
    (l16 : K.lookup f16 = some ⟨oc16, od16, .func (PySem.W.fnOf "adjoined" "adjoined" (defArgs s_adjoined) (defBody s_adjoined) (defScope s_adjoined) .none kV16 dc16 pm16 an16 cd16 ct16), sl16⟩)
    (c16 : PySem.W.codeIn K cd16 "adjoined" = true)
    (k16 : PySem.W.keepIn K (.ref f16) = true)
    (a1 : PySem.W.nsIn K mainGlobals "is_number" = some (some (.ref f1)))
    (l1 : K.lookup f1 = some ⟨oc1, od1, .func (PySem.W.fnOf "is_number" "is_number" (defArgs s_is_number) (defBody s_is_number) (defScope s_is_number) .none kV1 dc1 pm1 an1 cd1 ct1), sl1⟩)
    (c1 : PySem.W.codeIn K cd1 "is_number" = true)
    (k1 : PySem.W.keepIn K (.ref f1) = true)
    (a3 : PySem.W.nsIn K mainGlobals "is_below" = some (some (.ref f3)))
    (l3 : K.lookup f3 = some ⟨oc3, od3, .func (PySem.W.fnOf "is_below" "is_below" (defArgs s_is_below) (defBody s_is_below) (defScope s_is_below) .none kV3 dc3 pm3 an3 cd3 ct3), sl3⟩)
    (c3 : PySem.W.codeIn K cd3 "is_below" = true)
    (k3 : PySem.W.keepIn K (.ref f3) = true)
    (a4 : PySem.W.nsIn K mainGlobals "is_tuple_of" = some (some (.ref f4)))
    (l4 : K.lookup f4 = some ⟨oc4, od4, .func (PySem.W.fnOf "is_tuple_of" "is_tuple_of" (defArgs s_is_tuple_of) (defBody s_is_tuple_of) (defScope s_is_tuple_of) .none kV4 dc4 pm4 an4 cd4 ct4), sl4⟩)
    (c4 : PySem.W.codeIn K cd4 "is_tuple_of" = true)
    (k4 : PySem.W.keepIn K (.ref f4) = true)
    (a28 : PySem.W.nsIn K mainGlobals "is_place" = some (some (.ref f28)))
    (l28 : K.lookup f28 = some ⟨oc28, od28, .func (PySem.W.fnOf "is_place" "is_place" (defArgs s_is_place) (defBody s_is_place) (defScope s_is_place) .none kV28 dc28 pm28 an28 cd28 ct28), sl28⟩)
    (c28 : PySem.W.codeIn K cd28 "is_place" = true)
    (k28 : PySem.W.keepIn K (.ref f28) = true)
    (a6 : PySem.W.nsIn K mainGlobals "set_of" = some (some (.ref f6)))
    (l6 : K.lookup f6 = some ⟨oc6, od6, .func (PySem.W.fnOf "set_of" "set_of" (defArgs s_set_of) (defBody s_set_of) (defScope s_set_of) .none kV6 dc6 pm6 an6 cd6 ct6), sl6⟩)
    (c6 : PySem.W.codeIn K cd6 "set_of" = true)
    (k6 : PySem.W.keepIn K (.ref f6) = true)
    (a27 : PySem.W.nsIn K mainGlobals "is_matching_in" = some (some (.ref f27)))
    (l27 : K.lookup f27 = some ⟨oc27, od27, .func (PySem.W.fnOf "is_matching_in" "is_matching_in" (defArgs s_is_matching_in) (defBody s_is_matching_in) (defScope s_is_matching_in) .none kV27 dc27 pm27 an27 cd27 ct27), sl27⟩)
    (c27 : PySem.W.codeIn K cd27 "is_matching_in" = true)
    (k27 : PySem.W.keepIn K (.ref f27) = true)
    (a2 : PySem.W.nsIn K mainGlobals "is_count" = some (some (.ref f2)))
    (l2 : K.lookup f2 = some ⟨oc2, od2, .func (PySem.W.fnOf "is_count" "is_count" (defArgs s_is_count) (defBody s_is_count) (defScope s_is_count) .none kV2 dc2 pm2 an2 cd2 ct2), sl2⟩)
    (c2 : PySem.W.codeIn K cd2 "is_count" = true)
    (k2 : PySem.W.keepIn K (.ref f2) = true)
    (a11 : PySem.W.nsIn K mainGlobals "is_pattern" = some (some (.ref f11)))
    (l11 : K.lookup f11 = some ⟨oc11, od11, .func (PySem.W.fnOf "is_pattern" "is_pattern" (defArgs s_is_pattern) (defBody s_is_pattern) (defScope s_is_pattern) .none kV11 dc11 pm11 an11 cd11 ct11), sl11⟩)
    (c11 : PySem.W.codeIn K cd11 "is_pattern" = true)
    (k11 : PySem.W.keepIn K (.ref f11) = true)
    (a0 : PySem.W.nsIn K mainGlobals "tupled" = some (some (.ref f0)))
    (l0 : K.lookup f0 = some ⟨oc0, od0, .func (PySem.W.fnOf "tupled" "tupled" (defArgs s_tupled) (defBody s_tupled) (defScope s_tupled) .none kV0 dc0 pm0 an0 cd0 ct0), sl0⟩)
    (c0 : PySem.W.codeIn K cd0 "tupled" = true)
    (k0 : PySem.W.keepIn K (.ref f0) = true)
    (a12 : PySem.W.nsIn K mainGlobals "sure_pattern" = some (some (.ref f12)))
    (l12 : K.lookup f12 = some ⟨oc12, od12, .func (PySem.W.fnOf "sure_pattern" "sure_pattern" (defArgs s_sure_pattern) (defBody s_sure_pattern) (defScope s_sure_pattern) .none kV12 dc12 pm12 an12 cd12 ct12), sl12⟩)
    (c12 : PySem.W.codeIn K cd12 "sure_pattern" = true)
    (k12 : PySem.W.keepIn K (.ref f12) = true)
    (a19 : PySem.W.nsIn K mainGlobals "way_back" = some (some (.ref f19)))
    (l19 : K.lookup f19 = some ⟨oc19, od19, .func (PySem.W.fnOf "way_back" "way_back" (defArgs s_way_back) (defBody s_way_back) (defScope s_way_back) .none kV19 dc19 pm19 an19 cd19 ct19), sl19⟩)
    (c19 : PySem.W.codeIn K cd19 "way_back" = true)
    (k19 : PySem.W.keepIn K (.ref f19) = true)
    (a18 : PySem.W.nsIn K mainGlobals "way_in" = some (some (.ref f18)))
    (l18 : K.lookup f18 = some ⟨oc18, od18, .func (PySem.W.fnOf "way_in" "way_in" (defArgs s_way_in) (defBody s_way_in) (defScope s_way_in) .none kV18 dc18 pm18 an18 cd18 ct18), sl18⟩)
    (c18 : PySem.W.codeIn K cd18 "way_in" = true)
    (k18 : PySem.W.keepIn K (.ref f18) = true)
    (a35 : PySem.W.nsIn K mainGlobals "longer_way" = some (some (.ref f35)))
    (l35 : K.lookup f35 = some ⟨oc35, od35, .func (PySem.W.fnOf "longer_way" "longer_way" (defArgs s_longer_way) (defBody s_longer_way) (defScope s_longer_way) .none kV35 dc35 pm35 an35 cd35 ct35), sl35⟩)
    (c35 : PySem.W.codeIn K cd35 "longer_way" = true)
    (k35 : PySem.W.keepIn K (.ref f35) = true)
    (a39 : PySem.W.nsIn K mainGlobals "is_narrow_in" = some (some (.ref f39)))
    (l39 : K.lookup f39 = some ⟨oc39, od39, .func (PySem.W.fnOf "is_narrow_in" "is_narrow_in" (defArgs s_is_narrow_in) (defBody s_is_narrow_in) (defScope s_is_narrow_in) .none kV39 dc39 pm39 an39 cd39 ct39), sl39⟩)
    (c39 : PySem.W.codeIn K cd39 "is_narrow_in" = true)
    (k39 : PySem.W.keepIn K (.ref f39) = true)
    (a17 : PySem.W.nsIn K mainGlobals "pairs_grown" = some (some (.ref f17)))
    (l17 : K.lookup f17 = some ⟨oc17, od17, .func (PySem.W.fnOf "pairs_grown" "pairs_grown" (defArgs s_pairs_grown) (defBody s_pairs_grown) (defScope s_pairs_grown) .none kV17 dc17 pm17 an17 cd17 ct17), sl17⟩)
    (c17 : PySem.W.codeIn K cd17 "pairs_grown" = true)
    (k17 : PySem.W.keepIn K (.ref f17) = true)
    (a21 : PySem.W.nsIn K mainGlobals "rank_of" = some (some (.ref f21)))
    (l21 : K.lookup f21 = some ⟨oc21, od21, .func (PySem.W.fnOf "rank_of" "rank_of" (defArgs s_rank_of) (defBody s_rank_of) (defScope s_rank_of) .none kV21 dc21 pm21 an21 cd21 ct21), sl21⟩)
    (c21 : PySem.W.codeIn K cd21 "rank_of" = true)
    (k21 : PySem.W.keepIn K (.ref f21) = true)
    (a8 : PySem.W.nsIn K mainGlobals "subsets" = some (some (.ref f8)))
    (l8 : K.lookup f8 = some ⟨oc8, od8, .func (PySem.W.fnOf "subsets" "subsets" (defArgs s_subsets) (defBody s_subsets) (defScope s_subsets) .none kV8 dc8 pm8 an8 cd8 ct8), sl8⟩)
    (c8 : PySem.W.codeIn K cd8 "subsets" = true)
    (k8 : PySem.W.keepIn K (.ref f8) = true)
    (a37 : PySem.W.nsIn K mainGlobals "narrow_rows" = some (some (.ref f37)))
    (l37 : K.lookup f37 = some ⟨oc37, od37, .func (PySem.W.fnOf "narrow_rows" "narrow_rows" (defArgs s_narrow_rows) (defBody s_narrow_rows) (defScope s_narrow_rows) .none kV37 dc37 pm37 an37 cd37 ct37), sl37⟩)
    (c37 : PySem.W.codeIn K cd37 "narrow_rows" = true)
    (k37 : PySem.W.keepIn K (.ref f37) = true)
    (a45 : PySem.W.nsIn K mainGlobals "_law_heard" = some (some (.ref f45)))
    (l45 : K.lookup f45 = some ⟨oc45, od45, .func (PySem.W.fnOf "_law_heard" "_law_heard" (defArgs s__law_heard) (defBody s__law_heard) (defScope s__law_heard) .none kV45 dc45 pm45 an45 cd45 ct45), sl45⟩)
    (c45 : PySem.W.codeIn K cd45 "_law_heard" = true)
    (k45 : PySem.W.keepIn K (.ref f45) = true)
    (a42 : PySem.W.nsIn K mainGlobals "_law_lists" = some (some (.ref f42)))
    (l42 : K.lookup f42 = some ⟨oc42, od42, .func (PySem.W.fnOf "_law_lists" "_law_lists" (defArgs s__law_lists) (defBody s__law_lists) (defScope s__law_lists) .none kV42 dc42 pm42 an42 cd42 ct42), sl42⟩)
    (c42 : PySem.W.codeIn K cd42 "_law_lists" = true)
    (k42 : PySem.W.keepIn K (.ref f42) = true)
    (a32 : PySem.W.nsIn K mainGlobals "cover_in" = some (some (.ref f32)))
    (l32 : K.lookup f32 = some ⟨oc32, od32, .func (PySem.W.fnOf "cover_in" "cover_in" (defArgs s_cover_in) (defBody s_cover_in) (defScope s_cover_in) .none kV32 dc32 pm32 an32 cd32 ct32), sl32⟩)
    (c32 : PySem.W.codeIn K cd32 "cover_in" = true)
    (k32 : PySem.W.keepIn K (.ref f32) = true)
    (a31 : PySem.W.nsIn K mainGlobals "cover" = some (some (.ref f31)))
    (l31 : K.lookup f31 = some ⟨oc31, od31, .func (PySem.W.fnOf "cover" "cover" (defArgs s_cover) (defBody s_cover) (defScope s_cover) .none kV31 dc31 pm31 an31 cd31 ct31), sl31⟩)
    (c31 : PySem.W.codeIn K cd31 "cover" = true)
    (k31 : PySem.W.keepIn K (.ref f31) = true)
    (a5 : PySem.W.nsIn K mainGlobals "is_set_below" = some (some (.ref f5)))
    (l5 : K.lookup f5 = some ⟨oc5, od5, .func (PySem.W.fnOf "is_set_below" "is_set_below" (defArgs s_is_set_below) (defBody s_is_set_below) (defScope s_is_set_below) .none kV5 dc5 pm5 an5 cd5 ct5), sl5⟩)
    (c5 : PySem.W.codeIn K cd5 "is_set_below" = true)
    (k5 : PySem.W.keepIn K (.ref f5) = true)
    (a15 : PySem.W.nsIn K mainGlobals "places_in" = some (some (.ref f15)))
    (l15 : K.lookup f15 = some ⟨oc15, od15, .func (PySem.W.fnOf "places_in" "places_in" (defArgs s_places_in) (defBody s_places_in) (defScope s_places_in) .none kV15 dc15 pm15 an15 cd15 ct15), sl15⟩)
    (c15 : PySem.W.codeIn K cd15 "places_in" = true)
    (k15 : PySem.W.keepIn K (.ref f15) = true)
    (a34 : PySem.W.nsIn K mainGlobals "is_cover_in" = some (some (.ref f34)))
    (l34 : K.lookup f34 = some ⟨oc34, od34, .func (PySem.W.fnOf "is_cover_in" "is_cover_in" (defArgs s_is_cover_in) (defBody s_is_cover_in) (defScope s_is_cover_in) .none kV34 dc34 pm34 an34 cd34 ct34), sl34⟩)
    (c34 : PySem.W.codeIn K cd34 "is_cover_in" = true)
    (k34 : PySem.W.keepIn K (.ref f34) = true)
    (a33 : PySem.W.nsIn K mainGlobals "is_cover" = some (some (.ref f33)))
    (l33 : K.lookup f33 = some ⟨oc33, od33, .func (PySem.W.fnOf "is_cover" "is_cover" (defArgs s_is_cover) (defBody s_is_cover) (defScope s_is_cover) .none kV33 dc33 pm33 an33 cd33 ct33), sl33⟩)
    (c33 : PySem.W.codeIn K cd33 "is_cover" = true)
    (k33 : PySem.W.keepIn K (.ref f33) = true)
    (a29 : PySem.W.nsIn K mainGlobals "is_greatest" = some (some (.ref f29)))
    (l29 : K.lookup f29 = some ⟨oc29, od29, .func (PySem.W.fnOf "is_greatest" "is_greatest" (defArgs s_is_greatest) (defBody s_is_greatest) (defScope s_is_greatest) .none kV29 dc29 pm29 an29 cd29 ct29), sl29⟩)
    (c29 : PySem.W.codeIn K cd29 "is_greatest" = true)
    (k29 : PySem.W.keepIn K (.ref f29) = true)
    (a36 : PySem.W.nsIn K mainGlobals "is_longer_way" = some (some (.ref f36)))
    (l36 : K.lookup f36 = some ⟨oc36, od36, .func (PySem.W.fnOf "is_longer_way" "is_longer_way" (defArgs s_is_longer_way) (defBody s_is_longer_way) (defScope s_is_longer_way) .none kV36 dc36 pm36 an36 cd36 ct36), sl36⟩)
    (c36 : PySem.W.codeIn K cd36 "is_longer_way" = true)
    (k36 : PySem.W.keepIn K (.ref f36) = true)
    (a26 : PySem.W.nsIn K mainGlobals "is_matching" = some (some (.ref f26)))
    (l26 : K.lookup f26 = some ⟨oc26, od26, .func (PySem.W.fnOf "is_matching" "is_matching" (defArgs s_is_matching) (defBody s_is_matching) (defScope s_is_matching) .none kV26 dc26 pm26 an26 cd26 ct26), sl26⟩)
    (c26 : PySem.W.codeIn K cd26 "is_matching" = true)
    (k26 : PySem.W.keepIn K (.ref f26) = true)
    (a7 : PySem.W.nsIn K mainGlobals "sure_set" = some (some (.ref f7)))
    (l7 : K.lookup f7 = some ⟨oc7, od7, .func (PySem.W.fnOf "sure_set" "sure_set" (defArgs s_sure_set) (defBody s_sure_set) (defScope s_sure_set) .none kV7 dc7 pm7 an7 cd7 ct7), sl7⟩)
    (c7 : PySem.W.codeIn K cd7 "sure_set" = true)
    (k7 : PySem.W.keepIn K (.ref f7) = true)
    (a38 : PySem.W.nsIn K mainGlobals "is_narrow" = some (some (.ref f38)))
    (l38 : K.lookup f38 = some ⟨oc38, od38, .func (PySem.W.fnOf "is_narrow" "is_narrow" (defArgs s_is_narrow) (defBody s_is_narrow) (defScope s_is_narrow) .none kV38 dc38 pm38 an38 cd38 ct38), sl38⟩)
    (c38 : PySem.W.codeIn K cd38 "is_narrow" = true)
    (k38 : PySem.W.keepIn K (.ref f38) = true)
    (a24 : PySem.W.nsIn K mainGlobals "is_rank_paper" = some (some (.ref f24)))
    (l24 : K.lookup f24 = some ⟨oc24, od24, .func (PySem.W.fnOf "is_rank_paper" "is_rank_paper" (defArgs s_is_rank_paper) (defBody s_is_rank_paper) (defScope s_is_rank_paper) .none kV24 dc24 pm24 an24 cd24 ct24), sl24⟩)
    (c24 : PySem.W.codeIn K cd24 "is_rank_paper" = true)
    (k24 : PySem.W.keepIn K (.ref f24) = true)
    (a13 : PySem.W.nsIn K mainGlobals "is_of_in" = some (some (.ref f13)))
    (l13 : K.lookup f13 = some ⟨oc13, od13, .func (PySem.W.fnOf "is_of_in" "is_of_in" (defArgs s_is_of_in) (defBody s_is_of_in) (defScope s_is_of_in) .none kV13 dc13 pm13 an13 cd13 ct13), sl13⟩)
    (c13 : PySem.W.codeIn K cd13 "is_of_in" = true)
    (k13 : PySem.W.keepIn K (.ref f13) = true)
    (a9 : PySem.W.nsIn K mainGlobals "is_table" = some (some (.ref f9)))
    (l9 : K.lookup f9 = some ⟨oc9, od9, .func (PySem.W.fnOf "is_table" "is_table" (defArgs s_is_table) (defBody s_is_table) (defScope s_is_table) .none kV9 dc9 pm9 an9 cd9 ct9), sl9⟩)
    (c9 : PySem.W.codeIn K cd9 "is_table" = true)
    (k9 : PySem.W.keepIn K (.ref f9) = true)
    (a14 : PySem.W.nsIn K mainGlobals "is_table_of" = some (some (.ref f14)))
    (l14 : K.lookup f14 = some ⟨oc14, od14, .func (PySem.W.fnOf "is_table_of" "is_table_of" (defArgs s_is_table_of) (defBody s_is_table_of) (defScope s_is_table_of) .none kV14 dc14 pm14 an14 cd14 ct14), sl14⟩)
    (c14 : PySem.W.codeIn K cd14 "is_table_of" = true)
    (k14 : PySem.W.keepIn K (.ref f14) = true)
    (a10 : PySem.W.nsIn K mainGlobals "rank_in" = some (some (.ref f10)))
    (l10 : K.lookup f10 = some ⟨oc10, od10, .func (PySem.W.fnOf "rank_in" "rank_in" (defArgs s_rank_in) (defBody s_rank_in) (defScope s_rank_in) .none kV10 dc10 pm10 an10 cd10 ct10), sl10⟩)
    (c10 : PySem.W.codeIn K cd10 "rank_in" = true)
    (k10 : PySem.W.keepIn K (.ref f10) = true)
    (a41 : PySem.W.nsIn K mainGlobals "is_whole_table" = some (some (.ref f41)))
    (l41 : K.lookup f41 = some ⟨oc41, od41, .func (PySem.W.fnOf "is_whole_table" "is_whole_table" (defArgs s_is_whole_table) (defBody s_is_whole_table) (defScope s_is_whole_table) .none kV41 dc41 pm41 an41 cd41 ct41), sl41⟩)
    (c41 : PySem.W.codeIn K cd41 "is_whole_table" = true)
    (k41 : PySem.W.keepIn K (.ref f41) = true)
    (a25 : PySem.W.nsIn K mainGlobals "matching" = some (some (.ref f25)))
    (l25 : K.lookup f25 = some ⟨oc25, od25, .func (PySem.W.fnOf "matching" "matching" (defArgs s_matching) (defBody s_matching) (defScope s_matching) .none kV25 dc25 pm25 an25 cd25 ct25), sl25⟩)
    (c25 : PySem.W.codeIn K cd25 "matching" = true)
    (k25 : PySem.W.keepIn K (.ref f25) = true)
    (a30 : PySem.W.nsIn K mainGlobals "matchings_many" = some (some (.ref f30)))
    (l30 : K.lookup f30 = some ⟨oc30, od30, .func (PySem.W.fnOf "matchings_many" "matchings_many" (defArgs s_matchings_many) (defBody s_matchings_many) (defScope s_matchings_many) .none kV30 dc30 pm30 an30 cd30 ct30), sl30⟩)
    (c30 : PySem.W.codeIn K cd30 "matchings_many" = true)
    (k30 : PySem.W.keepIn K (.ref f30) = true)
    (a22 : PySem.W.nsIn K mainGlobals "most_rank" = some (some (.ref f22)))
    (l22 : K.lookup f22 = some ⟨oc22, od22, .func (PySem.W.fnOf "most_rank" "most_rank" (defArgs s_most_rank) (defBody s_most_rank) (defScope s_most_rank) .none kV22 dc22 pm22 an22 cd22 ct22), sl22⟩)
    (c22 : PySem.W.codeIn K cd22 "most_rank" = true)
    (k22 : PySem.W.keepIn K (.ref f22) = true)
    (a20 : PySem.W.nsIn K mainGlobals "greatest_pairs" = some (some (.ref f20)))
    (l20 : K.lookup f20 = some ⟨oc20, od20, .func (PySem.W.fnOf "greatest_pairs" "greatest_pairs" (defArgs s_greatest_pairs) (defBody s_greatest_pairs) (defScope s_greatest_pairs) .none kV20 dc20 pm20 an20 cd20 ct20), sl20⟩)
    (c20 : PySem.W.codeIn K cd20 "greatest_pairs" = true)
    (k20 : PySem.W.keepIn K (.ref f20) = true)
    (a23 : PySem.W.nsIn K mainGlobals "rank_paper" = some (some (.ref f23)))
    (l23 : K.lookup f23 = some ⟨oc23, od23, .func (PySem.W.fnOf "rank_paper" "rank_paper" (defArgs s_rank_paper) (defBody s_rank_paper) (defScope s_rank_paper) .none kV23 dc23 pm23 an23 cd23 ct23), sl23⟩)
    (c23 : PySem.W.codeIn K cd23 "rank_paper" = true)
    (k23 : PySem.W.keepIn K (.ref f23) = true)
    (a40 : PySem.W.nsIn K mainGlobals "whole_table" = some (some (.ref f40)))
    (l40 : K.lookup f40 = some ⟨oc40, od40, .func (PySem.W.fnOf "whole_table" "whole_table" (defArgs s_whole_table) (defBody s_whole_table) (defScope s_whole_table) .none kV40 dc40 pm40 an40 cd40 ct40), sl40⟩)
    (c40 : PySem.W.codeIn K cd40 "whole_table" = true)
    (k40 : PySem.W.keepIn K (.ref f40) = true)
    (a44 : PySem.W.nsIn K mainGlobals "_law_refused" = some (some (.ref f44)))
    (l44 : K.lookup f44 = some ⟨oc44, od44, .func (PySem.W.fnOf "_law_refused" "_law_refused" (defArgs s__law_refused) (defBody s__law_refused) (defScope s__law_refused) .none kV44 dc44 pm44 an44 cd44 ct44), sl44⟩)
    (c44 : PySem.W.codeIn K cd44 "_law_refused" = true)
    (k44 : PySem.W.keepIn K (.ref f44) = true)
    (a43 : PySem.W.nsIn K mainGlobals "_law_same" = some (some (.ref f43)))
    (l43 : K.lookup f43 = some ⟨oc43, od43, .func (PySem.W.fnOf "_law_same" "_law_same" (defArgs s__law_same) (defBody s__law_same) (defScope s__law_same) .none kV43 dc43 pm43 an43 cd43 ct43), sl43⟩)
    (c43 : PySem.W.codeIn K cd43 "_law_same" = true)
    (k43 : PySem.W.keepIn K (.ref f43) = true)
    (a46 : PySem.W.nsIn K mainGlobals "law" = some (some (.ref f46)))
    (l46 : K.lookup f46 = some ⟨oc46, od46, .func (PySem.W.fnOf "law" "law" (defArgs s_law) (defBody s_law) (defScope s_law) .none kV46 dc46 pm46 an46 cd46 ct46), sl46⟩)
    (c46 : PySem.W.codeIn K cd46 "law" = true)
    (k46 : PySem.W.keepIn K (.ref f46) = true)
    (z_LookupError : PySem.W.nsIn K mainGlobals "LookupError" = some none)
    (z_ValueError : PySem.W.nsIn K mainGlobals "ValueError" = some none)
    (z_all : PySem.W.nsIn K mainGlobals "all" = some none)
    (z_any : PySem.W.nsIn K mainGlobals "any" = some none)
    (z_bool : PySem.W.nsIn K mainGlobals "bool" = some none)
    (z_dict : PySem.W.nsIn K mainGlobals "dict" = some none)
    (z_enumerate : PySem.W.nsIn K mainGlobals "enumerate" = some none)
    (z_int : PySem.W.nsIn K mainGlobals "int" = some none)
    (z_isinstance : PySem.W.nsIn K mainGlobals "isinstance" = some none)
    (z_len : PySem.W.nsIn K mainGlobals "len" = some none)
    (z_list : PySem.W.nsIn K mainGlobals "list" = some none)
    (z_range : PySem.W.nsIn K mainGlobals "range" = some none)
    (z_set : PySem.W.nsIn K mainGlobals "set" = some none)
    (z_sorted : PySem.W.nsIn K mainGlobals "sorted" = some none)
    (z_str : PySem.W.nsIn K mainGlobals "str" = some none)
    (z_sum : PySem.W.nsIn K mainGlobals "sum" = some none)
    (z_tuple : PySem.W.nsIn K mainGlobals "tuple" = some none)
    (z_zip : PySem.W.nsIn K mainGlobals "zip" = some none)
    (p_MARKS : PySem.W.nsIn K mainGlobals "MARKS" = some (some (.int 3 t_MARKS)))
    (p_NOUGHT : PySem.W.nsIn K mainGlobals "NOUGHT" = some (some (.int 0 t_NOUGHT)))
    (p_PAIR : PySem.W.nsIn K mainGlobals "PAIR" = some (some (.int 2 t_PAIR)))
    (p_STRONG : PySem.W.nsIn K mainGlobals "STRONG" = some (some (.int 1 t_STRONG)))
    (g_factorial : PySem.W.nsIn K mainGlobals "factorial" = some (some (.builtin "math.factorial")))
    (ea0 : PySem.W.nsIn K mainGlobals "NoPaper" = some (some (.ref C0)))
    (eq0 : PySem.W.excIn K C0 [.type "LookupError", .type "Exception", .type "BaseException", .type "object"] "LookupError.__new__" = true)
    (ek0 : PySem.W.keepIn K (.ref C0) = true)
    (es0 : PySem.W.subIn K (.ref C0) (.type "BaseException") = some true)
    (et0 : PySem.W.typeIn K (.ref C0) = some (.type "type"))
    (ed0 : PySem.W.hasDictIn K C0 = true)
    (eb0 : PySem.W.findIn K (.ref C0) "__getattribute__" = some (some (.builtin "BaseException.__getattribute__")))
    (ec0 : PySem.W.findIn K (.ref C0) "__getattr__" = some none)
    (ee0 : PySem.W.findIn K (.ref C0) "__class__" = some (some (.builtin "object.__class__")))
    (em0 : PySem.W.mroIn K C0 (.type "object") = some true)
    (ea1 : PySem.W.nsIn K mainGlobals "Unfit" = some (some (.ref C1)))
    (eq1 : PySem.W.excIn K C1 [.type "ValueError", .type "Exception", .type "BaseException", .type "object"] "ValueError.__new__" = true)
    (ek1 : PySem.W.keepIn K (.ref C1) = true)
    (es1 : PySem.W.subIn K (.ref C1) (.type "BaseException") = some true)
    (et1 : PySem.W.typeIn K (.ref C1) = some (.type "type"))
    (ed1 : PySem.W.hasDictIn K C1 = true)
    (eb1 : PySem.W.findIn K (.ref C1) "__getattribute__" = some (some (.builtin "BaseException.__getattribute__")))
    (ec1 : PySem.W.findIn K (.ref C1) "__getattr__" = some none)
    (ee1 : PySem.W.findIn K (.ref C1) "__class__" = some (some (.builtin "object.__class__")))
    (em1 : PySem.W.mroIn K C1 (.type "object") = some true)
    (xn : PySem.W.specialIn K (.builtin "object.__class__") "__get__" = some (some (.builtin "getset_descriptor.__get__")))
    (xt : PySem.W.takesIn K (.builtin "object.__class__") = some true)
    (xs_NoPaper_0 : PySem.W.subIn K (.ref C0) (.ref C0) = some true)
    (xs_NoPaper_1 : PySem.W.subIn K (.ref C1) (.ref C0) = some false)
    (xs_Unfit_0 : PySem.W.subIn K (.ref C0) (.ref C1) = some false)
    (xs_Unfit_1 : PySem.W.subIn K (.ref C1) (.ref C1) = some true)
    (xk_LookupError_0 : PySem.W.subIn K (.ref C0) (.type "LookupError") = some true)
    (xk_LookupError_1 : PySem.W.subIn K (.ref C1) (.type "LookupError") = some false)
    (xk_ValueError_0 : PySem.W.subIn K (.ref C0) (.type "ValueError") = some false)
    (xk_ValueError_1 : PySem.W.subIn K (.ref C1) (.type "ValueError") = some true) :
    ∃ fd : FuncData, (∀ (s : Shared) (v : Value), BindsTo s fd ⟨[v], []⟩ [("script", v)]) ∧ ∀ (base : Heap), K.In base → base.Ns mainGlobals mg → FnOk l.prog w K mg base (L2.CX l.prog w) 17 fa fd ["script"] spTop := by
  have e := hfa.symm.trans (PySem.W.mg_of X G a46)
  cases e
  have W : Wd K mg ⟨fun i => ([f0, f1, f2, f3, f4, f5, f6, f7, f8, f9, f10, f11, f12, f13, f14, f15, f16, f17, f18, f19, f20, f21, f22, f23, f24, f25, f26, f27, f28, f29, f30, f31, f32, f33, f34, f35, f36, f37, f38, f39, f40, f41, f42, f43, f44, f45, fa] : List Addr).getD i fa, fun j => ([C0, C1] : List Addr).getD j fa, fun i => ([(PySem.W.fnOf "tupled" "tupled" (defArgs s_tupled) (defBody s_tupled) (defScope s_tupled) .none kV0 dc0 pm0 an0 cd0 ct0), (PySem.W.fnOf "is_number" "is_number" (defArgs s_is_number) (defBody s_is_number) (defScope s_is_number) .none kV1 dc1 pm1 an1 cd1 ct1), (PySem.W.fnOf "is_count" "is_count" (defArgs s_is_count) (defBody s_is_count) (defScope s_is_count) .none kV2 dc2 pm2 an2 cd2 ct2), (PySem.W.fnOf "is_below" "is_below" (defArgs s_is_below) (defBody s_is_below) (defScope s_is_below) .none kV3 dc3 pm3 an3 cd3 ct3), (PySem.W.fnOf "is_tuple_of" "is_tuple_of" (defArgs s_is_tuple_of) (defBody s_is_tuple_of) (defScope s_is_tuple_of) .none kV4 dc4 pm4 an4 cd4 ct4), (PySem.W.fnOf "is_set_below" "is_set_below" (defArgs s_is_set_below) (defBody s_is_set_below) (defScope s_is_set_below) .none kV5 dc5 pm5 an5 cd5 ct5), (PySem.W.fnOf "set_of" "set_of" (defArgs s_set_of) (defBody s_set_of) (defScope s_set_of) .none kV6 dc6 pm6 an6 cd6 ct6), (PySem.W.fnOf "sure_set" "sure_set" (defArgs s_sure_set) (defBody s_sure_set) (defScope s_sure_set) .none kV7 dc7 pm7 an7 cd7 ct7), (PySem.W.fnOf "subsets" "subsets" (defArgs s_subsets) (defBody s_subsets) (defScope s_subsets) .none kV8 dc8 pm8 an8 cd8 ct8), (PySem.W.fnOf "is_table" "is_table" (defArgs s_is_table) (defBody s_is_table) (defScope s_is_table) .none kV9 dc9 pm9 an9 cd9 ct9), (PySem.W.fnOf "rank_in" "rank_in" (defArgs s_rank_in) (defBody s_rank_in) (defScope s_rank_in) .none kV10 dc10 pm10 an10 cd10 ct10), (PySem.W.fnOf "is_pattern" "is_pattern" (defArgs s_is_pattern) (defBody s_is_pattern) (defScope s_is_pattern) .none kV11 dc11 pm11 an11 cd11 ct11), (PySem.W.fnOf "sure_pattern" "sure_pattern" (defArgs s_sure_pattern) (defBody s_sure_pattern) (defScope s_sure_pattern) .none kV12 dc12 pm12 an12 cd12 ct12), (PySem.W.fnOf "is_of_in" "is_of_in" (defArgs s_is_of_in) (defBody s_is_of_in) (defScope s_is_of_in) .none kV13 dc13 pm13 an13 cd13 ct13), (PySem.W.fnOf "is_table_of" "is_table_of" (defArgs s_is_table_of) (defBody s_is_table_of) (defScope s_is_table_of) .none kV14 dc14 pm14 an14 cd14 ct14), (PySem.W.fnOf "places_in" "places_in" (defArgs s_places_in) (defBody s_places_in) (defScope s_places_in) .none kV15 dc15 pm15 an15 cd15 ct15), (PySem.W.fnOf "adjoined" "adjoined" (defArgs s_adjoined) (defBody s_adjoined) (defScope s_adjoined) .none kV16 dc16 pm16 an16 cd16 ct16), (PySem.W.fnOf "pairs_grown" "pairs_grown" (defArgs s_pairs_grown) (defBody s_pairs_grown) (defScope s_pairs_grown) .none kV17 dc17 pm17 an17 cd17 ct17), (PySem.W.fnOf "way_in" "way_in" (defArgs s_way_in) (defBody s_way_in) (defScope s_way_in) .none kV18 dc18 pm18 an18 cd18 ct18), (PySem.W.fnOf "way_back" "way_back" (defArgs s_way_back) (defBody s_way_back) (defScope s_way_back) .none kV19 dc19 pm19 an19 cd19 ct19), (PySem.W.fnOf "greatest_pairs" "greatest_pairs" (defArgs s_greatest_pairs) (defBody s_greatest_pairs) (defScope s_greatest_pairs) .none kV20 dc20 pm20 an20 cd20 ct20), (PySem.W.fnOf "rank_of" "rank_of" (defArgs s_rank_of) (defBody s_rank_of) (defScope s_rank_of) .none kV21 dc21 pm21 an21 cd21 ct21), (PySem.W.fnOf "most_rank" "most_rank" (defArgs s_most_rank) (defBody s_most_rank) (defScope s_most_rank) .none kV22 dc22 pm22 an22 cd22 ct22), (PySem.W.fnOf "rank_paper" "rank_paper" (defArgs s_rank_paper) (defBody s_rank_paper) (defScope s_rank_paper) .none kV23 dc23 pm23 an23 cd23 ct23), (PySem.W.fnOf "is_rank_paper" "is_rank_paper" (defArgs s_is_rank_paper) (defBody s_is_rank_paper) (defScope s_is_rank_paper) .none kV24 dc24 pm24 an24 cd24 ct24), (PySem.W.fnOf "matching" "matching" (defArgs s_matching) (defBody s_matching) (defScope s_matching) .none kV25 dc25 pm25 an25 cd25 ct25), (PySem.W.fnOf "is_matching" "is_matching" (defArgs s_is_matching) (defBody s_is_matching) (defScope s_is_matching) .none kV26 dc26 pm26 an26 cd26 ct26), (PySem.W.fnOf "is_matching_in" "is_matching_in" (defArgs s_is_matching_in) (defBody s_is_matching_in) (defScope s_is_matching_in) .none kV27 dc27 pm27 an27 cd27 ct27), (PySem.W.fnOf "is_place" "is_place" (defArgs s_is_place) (defBody s_is_place) (defScope s_is_place) .none kV28 dc28 pm28 an28 cd28 ct28), (PySem.W.fnOf "is_greatest" "is_greatest" (defArgs s_is_greatest) (defBody s_is_greatest) (defScope s_is_greatest) .none kV29 dc29 pm29 an29 cd29 ct29), (PySem.W.fnOf "matchings_many" "matchings_many" (defArgs s_matchings_many) (defBody s_matchings_many) (defScope s_matchings_many) .none kV30 dc30 pm30 an30 cd30 ct30), (PySem.W.fnOf "cover" "cover" (defArgs s_cover) (defBody s_cover) (defScope s_cover) .none kV31 dc31 pm31 an31 cd31 ct31), (PySem.W.fnOf "cover_in" "cover_in" (defArgs s_cover_in) (defBody s_cover_in) (defScope s_cover_in) .none kV32 dc32 pm32 an32 cd32 ct32), (PySem.W.fnOf "is_cover" "is_cover" (defArgs s_is_cover) (defBody s_is_cover) (defScope s_is_cover) .none kV33 dc33 pm33 an33 cd33 ct33), (PySem.W.fnOf "is_cover_in" "is_cover_in" (defArgs s_is_cover_in) (defBody s_is_cover_in) (defScope s_is_cover_in) .none kV34 dc34 pm34 an34 cd34 ct34), (PySem.W.fnOf "longer_way" "longer_way" (defArgs s_longer_way) (defBody s_longer_way) (defScope s_longer_way) .none kV35 dc35 pm35 an35 cd35 ct35), (PySem.W.fnOf "is_longer_way" "is_longer_way" (defArgs s_is_longer_way) (defBody s_is_longer_way) (defScope s_is_longer_way) .none kV36 dc36 pm36 an36 cd36 ct36), (PySem.W.fnOf "narrow_rows" "narrow_rows" (defArgs s_narrow_rows) (defBody s_narrow_rows) (defScope s_narrow_rows) .none kV37 dc37 pm37 an37 cd37 ct37), (PySem.W.fnOf "is_narrow" "is_narrow" (defArgs s_is_narrow) (defBody s_is_narrow) (defScope s_is_narrow) .none kV38 dc38 pm38 an38 cd38 ct38), (PySem.W.fnOf "is_narrow_in" "is_narrow_in" (defArgs s_is_narrow_in) (defBody s_is_narrow_in) (defScope s_is_narrow_in) .none kV39 dc39 pm39 an39 cd39 ct39), (PySem.W.fnOf "whole_table" "whole_table" (defArgs s_whole_table) (defBody s_whole_table) (defScope s_whole_table) .none kV40 dc40 pm40 an40 cd40 ct40), (PySem.W.fnOf "is_whole_table" "is_whole_table" (defArgs s_is_whole_table) (defBody s_is_whole_table) (defScope s_is_whole_table) .none kV41 dc41 pm41 an41 cd41 ct41), (PySem.W.fnOf "_law_lists" "_law_lists" (defArgs s__law_lists) (defBody s__law_lists) (defScope s__law_lists) .none kV42 dc42 pm42 an42 cd42 ct42), (PySem.W.fnOf "_law_same" "_law_same" (defArgs s__law_same) (defBody s__law_same) (defScope s__law_same) .none kV43 dc43 pm43 an43 cd43 ct43), (PySem.W.fnOf "_law_refused" "_law_refused" (defArgs s__law_refused) (defBody s__law_refused) (defScope s__law_refused) .none kV44 dc44 pm44 an44 cd44 ct44), (PySem.W.fnOf "_law_heard" "_law_heard" (defArgs s__law_heard) (defBody s__law_heard) (defScope s__law_heard) .none kV45 dc45 pm45 an45 cd45 ct45), (PySem.W.fnOf "law" "law" (defArgs s_law) (defBody s_law) (defScope s_law) .none kV46 dc46 pm46 an46 cd46 ct46)] : List FuncData).getD i (PySem.W.fnOf "law" "law" (defArgs s_law) (defBody s_law) (defScope s_law) .none kV46 dc46 pm46 an46 cd46 ct46), 0, 0, w⟩ := {
    d_adjoined := ⟨fun_mk (st := s_adjoined) l16 c16 k16, PySem.W.mg_of X G a16, (fun_mk (st := s_adjoined) l16 c16 k16).binds (ps := ["pattern"]) fun _ _ _ _ _ _ us hl => match us, hl with | [_], _ => rfl⟩
    d_is_number := ⟨fun_mk (st := s_is_number) l1 c1 k1, PySem.W.mg_of X G a1, (fun_mk (st := s_is_number) l1 c1 k1).binds (ps := ["thing"]) fun _ _ _ _ _ _ us hl => match us, hl with | [_], _ => rfl⟩
    d_is_below := ⟨fun_mk (st := s_is_below) l3 c3 k3, PySem.W.mg_of X G a3, (fun_mk (st := s_is_below) l3 c3 k3).binds (ps := ["thing", "many"]) fun _ _ _ _ _ _ us hl => match us, hl with | [_, _], _ => rfl⟩
    d_is_tuple_of := ⟨fun_mk (st := s_is_tuple_of) l4 c4 k4, PySem.W.mg_of X G a4, (fun_mk (st := s_is_tuple_of) l4 c4 k4).binds (ps := ["thing", "many"]) fun _ _ _ _ _ _ us hl => match us, hl with | [_, _], _ => rfl⟩
    d_is_place := ⟨fun_mk (st := s_is_place) l28 c28 k28, PySem.W.mg_of X G a28, (fun_mk (st := s_is_place) l28 c28 k28).binds (ps := ["pattern", "thing"]) fun _ _ _ _ _ _ us hl => match us, hl with | [_, _], _ => rfl⟩
    d_set_of := ⟨fun_mk (st := s_set_of) l6 c6 k6, PySem.W.mg_of X G a6, (fun_mk (st := s_set_of) l6 c6 k6).binds (ps := ["things"]) fun _ _ _ _ _ _ us hl => match us, hl with | [_], _ => rfl⟩
    d_is_matching_in := ⟨fun_mk (st := s_is_matching_in) l27 c27 k27, PySem.W.mg_of X G a27, (fun_mk (st := s_is_matching_in) l27 c27 k27).binds (ps := ["pattern", "thing"]) fun _ _ _ _ _ _ us hl => match us, hl with | [_, _], _ => rfl⟩
    d_is_count := ⟨fun_mk (st := s_is_count) l2 c2 k2, PySem.W.mg_of X G a2, (fun_mk (st := s_is_count) l2 c2 k2).binds (ps := ["thing"]) fun _ _ _ _ _ _ us hl => match us, hl with | [_], _ => rfl⟩
    d_is_pattern := ⟨fun_mk (st := s_is_pattern) l11 c11 k11, PySem.W.mg_of X G a11, (fun_mk (st := s_is_pattern) l11 c11 k11).binds (ps := ["thing"]) fun _ _ _ _ _ _ us hl => match us, hl with | [_], _ => rfl⟩
    d_tupled := ⟨fun_mk (st := s_tupled) l0 c0 k0, PySem.W.mg_of X G a0, (fun_mk (st := s_tupled) l0 c0 k0).binds (ps := ["thing"]) fun _ _ _ _ _ _ us hl => match us, hl with | [_], _ => rfl⟩
    d_sure_pattern := ⟨fun_mk (st := s_sure_pattern) l12 c12 k12, PySem.W.mg_of X G a12, (fun_mk (st := s_sure_pattern) l12 c12 k12).binds (ps := ["thing"]) fun _ _ _ _ _ _ us hl => match us, hl with | [_], _ => rfl⟩
    d_way_back := ⟨fun_mk (st := s_way_back) l19 c19 k19, PySem.W.mg_of X G a19, (fun_mk (st := s_way_back) l19 c19 k19).binds (ps := ["came", "mates", "starts", "column"]) fun _ _ _ _ _ _ us hl => match us, hl with | [_, _, _, _], _ => rfl⟩
    d_way_in := ⟨fun_mk (st := s_way_in) l18 c18 k18, PySem.W.mg_of X G a18, (fun_mk (st := s_way_in) l18 c18 k18).binds (ps := ["lists", "mates", "starts"]) fun _ _ _ _ _ _ us hl => match us, hl with | [_, _, _], _ => rfl⟩
    d_longer_way := ⟨fun_mk (st := s_longer_way) l35 c35 k35, PySem.W.mg_of X G a35, (fun_mk (st := s_longer_way) l35 c35 k35).binds (ps := ["pattern", "told"]) fun _ _ _ _ _ _ us hl => match us, hl with | [_, _], _ => rfl⟩
    d_is_narrow_in := ⟨fun_mk (st := s_is_narrow_in) l39 c39 k39, PySem.W.mg_of X G a39, (fun_mk (st := s_is_narrow_in) l39 c39 k39).binds (ps := ["lists", "rows"]) fun _ _ _ _ _ _ us hl => match us, hl with | [_, _], _ => rfl⟩
    d_pairs_grown := ⟨fun_mk (st := s_pairs_grown) l17 c17 k17, PySem.W.mg_of X G a17, (fun_mk (st := s_pairs_grown) l17 c17 k17).binds (ps := ["lists", "pairs"]) fun _ _ _ _ _ _ us hl => match us, hl with | [_, _], _ => rfl⟩
    d_rank_of := ⟨fun_mk (st := s_rank_of) l21 c21 k21, PySem.W.mg_of X G a21, (fun_mk (st := s_rank_of) l21 c21 k21).binds (ps := ["pattern"]) fun _ _ _ _ _ _ us hl => match us, hl with | [_], _ => rfl⟩
    d_subsets := ⟨fun_mk (st := s_subsets) l8 c8 k8, PySem.W.mg_of X G a8, (fun_mk (st := s_subsets) l8 c8 k8).binds (ps := ["things"]) fun _ _ _ _ _ _ us hl => match us, hl with | [_], _ => rfl⟩
    d_narrow_rows := ⟨fun_mk (st := s_narrow_rows) l37 c37 k37, PySem.W.mg_of X G a37, (fun_mk (st := s_narrow_rows) l37 c37 k37).binds (ps := ["pattern"]) fun _ _ _ _ _ _ us hl => match us, hl with | [_], _ => rfl⟩
    d__law_heard := ⟨fun_mk (st := s__law_heard) l45 c45 k45, PySem.W.mg_of X G a45, (fun_mk (st := s__law_heard) l45 c45 k45).binds (ps := ["door", "pattern", "pairs"]) fun _ _ _ _ _ _ us hl => match us, hl with | [_, _, _], _ => rfl⟩
    d__law_lists := ⟨fun_mk (st := s__law_lists) l42 c42 k42, PySem.W.mg_of X G a42, (fun_mk (st := s__law_lists) l42 c42 k42).binds (ps := ["matter"]) fun _ _ _ _ _ _ us hl => match us, hl with | [_], _ => rfl⟩
    d_cover_in := ⟨fun_mk (st := s_cover_in) l32 c32 k32, PySem.W.mg_of X G a32, (fun_mk (st := s_cover_in) l32 c32 k32).binds (ps := ["pattern"]) fun _ _ _ _ _ _ us hl => match us, hl with | [_], _ => rfl⟩
    d_cover := ⟨fun_mk (st := s_cover) l31 c31 k31, PySem.W.mg_of X G a31, (fun_mk (st := s_cover) l31 c31 k31).binds (ps := ["pattern"]) fun _ _ _ _ _ _ us hl => match us, hl with | [_], _ => rfl⟩
    d_is_set_below := ⟨fun_mk (st := s_is_set_below) l5 c5 k5, PySem.W.mg_of X G a5, (fun_mk (st := s_is_set_below) l5 c5 k5).binds (ps := ["thing", "many"]) fun _ _ _ _ _ _ us hl => match us, hl with | [_, _], _ => rfl⟩
    d_places_in := ⟨fun_mk (st := s_places_in) l15 c15 k15, PySem.W.mg_of X G a15, (fun_mk (st := s_places_in) l15 c15 k15).binds (ps := ["pattern", "marks"]) fun _ _ _ _ _ _ us hl => match us, hl with | [_, _], _ => rfl⟩
    d_is_cover_in := ⟨fun_mk (st := s_is_cover_in) l34 c34 k34, PySem.W.mg_of X G a34, (fun_mk (st := s_is_cover_in) l34 c34 k34).binds (ps := ["pattern", "thing"]) fun _ _ _ _ _ _ us hl => match us, hl with | [_, _], _ => rfl⟩
    d_is_cover := ⟨fun_mk (st := s_is_cover) l33 c33 k33, PySem.W.mg_of X G a33, (fun_mk (st := s_is_cover) l33 c33 k33).binds (ps := ["pattern", "thing"]) fun _ _ _ _ _ _ us hl => match us, hl with | [_, _], _ => rfl⟩
    d_is_greatest := ⟨fun_mk (st := s_is_greatest) l29 c29 k29, PySem.W.mg_of X G a29, (fun_mk (st := s_is_greatest) l29 c29 k29).binds (ps := ["pattern", "thing"]) fun _ _ _ _ _ _ us hl => match us, hl with | [_, _], _ => rfl⟩
    d_is_longer_way := ⟨fun_mk (st := s_is_longer_way) l36 c36 k36, PySem.W.mg_of X G a36, (fun_mk (st := s_is_longer_way) l36 c36 k36).binds (ps := ["pattern", "told", "thing"]) fun _ _ _ _ _ _ us hl => match us, hl with | [_, _, _], _ => rfl⟩
    d_is_matching := ⟨fun_mk (st := s_is_matching) l26 c26 k26, PySem.W.mg_of X G a26, (fun_mk (st := s_is_matching) l26 c26 k26).binds (ps := ["pattern", "thing"]) fun _ _ _ _ _ _ us hl => match us, hl with | [_, _], _ => rfl⟩
    d_sure_set := ⟨fun_mk (st := s_sure_set) l7 c7 k7, PySem.W.mg_of X G a7, (fun_mk (st := s_sure_set) l7 c7 k7).binds (ps := ["thing", "many"]) fun _ _ _ _ _ _ us hl => match us, hl with | [_, _], _ => rfl⟩
    d_is_narrow := ⟨fun_mk (st := s_is_narrow) l38 c38 k38, PySem.W.mg_of X G a38, (fun_mk (st := s_is_narrow) l38 c38 k38).binds (ps := ["pattern", "rows"]) fun _ _ _ _ _ _ us hl => match us, hl with | [_, _], _ => rfl⟩
    d_is_rank_paper := ⟨fun_mk (st := s_is_rank_paper) l24 c24 k24, PySem.W.mg_of X G a24, (fun_mk (st := s_is_rank_paper) l24 c24 k24).binds (ps := ["pattern", "thing"]) fun _ _ _ _ _ _ us hl => match us, hl with | [_, _], _ => rfl⟩
    d_is_of_in := ⟨fun_mk (st := s_is_of_in) l13 c13 k13, PySem.W.mg_of X G a13, (fun_mk (st := s_is_of_in) l13 c13 k13).binds (ps := ["table", "pattern"]) fun _ _ _ _ _ _ us hl => match us, hl with | [_, _], _ => rfl⟩
    d_is_table := ⟨fun_mk (st := s_is_table) l9 c9 k9, PySem.W.mg_of X G a9, (fun_mk (st := s_is_table) l9 c9 k9).binds (ps := ["thing"]) fun _ _ _ _ _ _ us hl => match us, hl with | [_], _ => rfl⟩
    d_is_table_of := ⟨fun_mk (st := s_is_table_of) l14 c14 k14, PySem.W.mg_of X G a14, (fun_mk (st := s_is_table_of) l14 c14 k14).binds (ps := ["thing", "pattern"]) fun _ _ _ _ _ _ us hl => match us, hl with | [_, _], _ => rfl⟩
    d_rank_in := ⟨fun_mk (st := s_rank_in) l10 c10 k10, PySem.W.mg_of X G a10, (fun_mk (st := s_rank_in) l10 c10 k10).binds (ps := ["table"]) fun _ _ _ _ _ _ us hl => match us, hl with | [_], _ => rfl⟩
    d_is_whole_table := ⟨fun_mk (st := s_is_whole_table) l41 c41 k41, PySem.W.mg_of X G a41, (fun_mk (st := s_is_whole_table) l41 c41 k41).binds (ps := ["pattern", "thing"]) fun _ _ _ _ _ _ us hl => match us, hl with | [_, _], _ => rfl⟩
    d_matching := ⟨fun_mk (st := s_matching) l25 c25 k25, PySem.W.mg_of X G a25, (fun_mk (st := s_matching) l25 c25 k25).binds (ps := ["pattern"]) fun _ _ _ _ _ _ us hl => match us, hl with | [_], _ => rfl⟩
    d_matchings_many := ⟨fun_mk (st := s_matchings_many) l30 c30 k30, PySem.W.mg_of X G a30, (fun_mk (st := s_matchings_many) l30 c30 k30).binds (ps := ["pattern"]) fun _ _ _ _ _ _ us hl => match us, hl with | [_], _ => rfl⟩
    d_most_rank := ⟨fun_mk (st := s_most_rank) l22 c22 k22, PySem.W.mg_of X G a22, (fun_mk (st := s_most_rank) l22 c22 k22).binds (ps := ["pattern"]) fun _ _ _ _ _ _ us hl => match us, hl with | [_], _ => rfl⟩
    d_greatest_pairs := ⟨fun_mk (st := s_greatest_pairs) l20 c20 k20, PySem.W.mg_of X G a20, (fun_mk (st := s_greatest_pairs) l20 c20 k20).binds (ps := ["pattern"]) fun _ _ _ _ _ _ us hl => match us, hl with | [_], _ => rfl⟩
    d_rank_paper := ⟨fun_mk (st := s_rank_paper) l23 c23 k23, PySem.W.mg_of X G a23, (fun_mk (st := s_rank_paper) l23 c23 k23).binds (ps := ["pattern"]) fun _ _ _ _ _ _ us hl => match us, hl with | [_], _ => rfl⟩
    d_whole_table := ⟨fun_mk (st := s_whole_table) l40 c40 k40, PySem.W.mg_of X G a40, (fun_mk (st := s_whole_table) l40 c40 k40).binds (ps := ["pattern"]) fun _ _ _ _ _ _ us hl => match us, hl with | [_], _ => rfl⟩
    d__law_refused := ⟨fun_mk (st := s__law_refused) l44 c44 k44, PySem.W.mg_of X G a44, (fun_mk (st := s__law_refused) l44 c44 k44).binds (ps := ["door"]) fun _ _ _ _ _ _ us hl => match us, hl with | [_], _ => rfl⟩
    d__law_same := ⟨fun_mk (st := s__law_same) l43 c43 k43, PySem.W.mg_of X G a43, (fun_mk (st := s__law_same) l43 c43 k43).binds (ps := ["got", "due"]) fun _ _ _ _ _ _ us hl => match us, hl with | [_, _], _ => rfl⟩
    d_law := ⟨fun_mk (st := s_law) l46 c46 k46, PySem.W.mg_of X G a46, (fun_mk (st := s_law) l46 c46 k46).binds (ps := ["script"]) fun _ _ _ _ _ _ us hl => match us, hl with | [_], _ => rfl⟩
    n_LookupError := PySem.W.mg_none_of X G z_LookupError
    n_ValueError := PySem.W.mg_none_of X G z_ValueError
    n_all := PySem.W.mg_none_of X G z_all
    n_any := PySem.W.mg_none_of X G z_any
    n_bool := PySem.W.mg_none_of X G z_bool
    n_dict := PySem.W.mg_none_of X G z_dict
    n_enumerate := PySem.W.mg_none_of X G z_enumerate
    n_int := PySem.W.mg_none_of X G z_int
    n_isinstance := PySem.W.mg_none_of X G z_isinstance
    n_len := PySem.W.mg_none_of X G z_len
    n_list := PySem.W.mg_none_of X G z_list
    n_range := PySem.W.mg_none_of X G z_range
    n_set := PySem.W.mg_none_of X G z_set
    n_sorted := PySem.W.mg_none_of X G z_sorted
    n_str := PySem.W.mg_none_of X G z_str
    n_sum := PySem.W.mg_none_of X G z_sum
    n_tuple := PySem.W.mg_none_of X G z_tuple
    n_zip := PySem.W.mg_none_of X G z_zip
    c_MARKS := ⟨_, PySem.W.mg_of X G p_MARKS⟩
    c_NOUGHT := ⟨_, PySem.W.mg_of X G p_NOUGHT⟩
    c_PAIR := ⟨_, PySem.W.mg_of X G p_PAIR⟩
    c_STRONG := ⟨_, PySem.W.mg_of X G p_STRONG⟩
    g_factorial := PySem.W.mg_of X G g_factorial
    xk_LookupError := fun j hj => match j, hj with | 0, _ => kit_ref (by decide +kernel) xk_LookupError_0 | 1, _ => kit_ref (by decide +kernel) xk_LookupError_1 | _ + 2, hj => absurd hj (by omega)
    xk_ValueError := fun j hj => match j, hj with | 0, _ => kit_ref (by decide +kernel) xk_ValueError_0 | 1, _ => kit_ref (by decide +kernel) xk_ValueError_1 | _ + 2, hj => absurd hj (by omega)
    x_NoPaper := fun j hj => match j, hj with | 0, _ => PySem.W.exm_ref es0 ed0 et0 xs_NoPaper_0 | 1, _ => PySem.W.exm_ref es0 ed0 et0 xs_NoPaper_1 | _ + 2, hj => absurd hj (by omega)
    x_Unfit := fun j hj => match j, hj with | 0, _ => PySem.W.exm_ref es1 ed1 et1 xs_Unfit_0 | 1, _ => PySem.W.exm_ref es1 ed1 et1 xs_Unfit_1 | _ + 2, hj => absurd hj (by omega)
    e_NoPaper := ⟨PySem.W.mg_of X G ea0, eq0, ek0, es0, et0⟩
    e_Unfit := ⟨PySem.W.mg_of X G ea1, eq1, ek1, es1, et1⟩
    xc := fun j hj => match j, hj with | 0, _ => ⟨eb0, ec0, es0, ed0, ee0, xn, xt, em0⟩ | 1, _ => ⟨eb1, ec1, es1, ed1, ee1, xn, xt, em1⟩ | _ + 2, hj => absurd hj (by omega)
  }
  exact ⟨(PySem.W.fnOf "law" "law" (defArgs s_law) (defBody s_law) (defScope s_law) .none kV46 dc46 pm46 an46 cd46 ct46), fun s v => .of_eq rfl, fun base _ _ => top_ok (ok_law W 17 (Nat.le_refl _)) run_law⟩
end Lw
open PySem W PyProof.Rows
set_option maxHeartbeats 0 in
theorem PySem.Challenge.cw_strengthsuntold_k06_matchings_and_covers_holds : PySem.Challenge.rw_strengthsuntold_k06_matchings_and_covers.Holds := by
  w_on; o_law
  k_head; (case hw => w_witness2); k_fill
  refine L2.walk_of (l := PySem.Challenge.rw_strengthsuntold_k06_matchings_and_covers) (n := 63) (k := 17) (x := "script") (CX := fun w => L2.CX PySem.Challenge.rw_strengthsuntold_k06_matchings_and_covers.prog w) (sp := fun w => Ev.spTop) rfl (by decide) rfl ⟨rfl, by decide, by decide⟩ (fun w h Y => PySem.W.kIn_of Y) ?F (fun _ _ a ns hl _ hS => ⟨_, rfl, fun _ => rfl⟩) (fun _ _ _ _ _ h => Ev.cx_no h)
  case F =>
    intro w mg fa h KX G hmg
    refine' Lw.all_mk KX G hmg ?a16 ?l16 ?c16 ?k16 ?a1 ?l1 ?c1 ?k1 ?a3 ?l3 ?c3 ?k3 ?a4 ?l4 ?c4 ?k4 ?a28 ?l28 ?c28 ?k28 ?a6 ?l6 ?c6 ?k6 ?a27 ?l27 ?c27 ?k27 ?a2 ?l2 ?c2 ?k2 ?a11 ?l11 ?c11 ?k11 ?a0 ?l0 ?c0 ?k0 ?a12 ?l12 ?c12 ?k12 ?a19 ?l19 ?c19 ?k19 ?a18 ?l18 ?c18 ?k18 ?a35 ?l35 ?c35 ?k35 ?a39 ?l39 ?c39 ?k39 ?a17 ?l17 ?c17 ?k17 ?a21 ?l21 ?c21 ?k21 ?a8 ?l8 ?c8 ?k8 ?a37 ?l37 ?c37 ?k37 ?a45 ?l45 ?c45 ?k45 ?a42 ?l42 ?c42 ?k42 ?a32 ?l32 ?c32 ?k32 ?a31 ?l31 ?c31 ?k31 ?a5 ?l5 ?c5 ?k5 ?a15 ?l15 ?c15 ?k15 ?a34 ?l34 ?c34 ?k34 ?a33 ?l33 ?c33 ?k33 ?a29 ?l29 ?c29 ?k29 ?a36 ?l36 ?c36 ?k36 ?a26 ?l26 ?c26 ?k26 ?a7 ?l7 ?c7 ?k7 ?a38 ?l38 ?c38 ?k38 ?a24 ?l24 ?c24 ?k24 ?a13 ?l13 ?c13 ?k13 ?a9 ?l9 ?c9 ?k9 ?a14 ?l14 ?c14 ?k14 ?a10 ?l10 ?c10 ?k10 ?a41 ?l41 ?c41 ?k41 ?a25 ?l25 ?c25 ?k25 ?a30 ?l30 ?c30 ?k30 ?a22 ?l22 ?c22 ?k22 ?a20 ?l20 ?c20 ?k20 ?a23 ?l23 ?c23 ?k23 ?a40 ?l40 ?c40 ?k40 ?a44 ?l44 ?c44 ?k44 ?a43 ?l43 ?c43 ?k43 ?a46 ?l46 ?c46 ?k46 ?z_LookupError ?z_ValueError ?z_all ?z_any ?z_bool ?z_dict ?z_enumerate ?z_int ?z_isinstance ?z_len ?z_list ?z_range ?z_set ?z_sorted ?z_str ?z_sum ?z_tuple ?z_zip ?p_MARKS ?p_NOUGHT ?p_PAIR ?p_STRONG ?g_factorial ?ea0 ?eq0 ?ek0 ?es0 ?et0 ?ed0 ?eb0 ?ec0 ?ee0 ?em0 ?ea1 ?eq1 ?ek1 ?es1 ?et1 ?ed1 ?eb1 ?ec1 ?ee1 ?em1 ?xn ?xt ?xs_NoPaper_0 ?xs_NoPaper_1 ?xs_Unfit_0 ?xs_Unfit_1 ?xk_LookupError_0 ?xk_LookupError_1 ?xk_ValueError_0 ?xk_ValueError_1
    (case a16 => k_is); (case l16 => k_is); (case c16 => k_is); (case k16 => k_is); (case a1 => k_is); (case l1 => k_is)
    (case c1 => k_is); (case k1 => k_is); (case a3 => k_is); (case l3 => k_is); (case c3 => k_is); (case k3 => k_is)
    (case a4 => k_is); (case l4 => k_is); (case c4 => k_is); (case k4 => k_is); (case a28 => k_is); (case l28 => k_is)
    (case c28 => k_is); (case k28 => k_is); (case a6 => k_is); (case l6 => k_is); (case c6 => k_is); (case k6 => k_is)
    (case a27 => k_is); (case l27 => k_is); (case c27 => k_is); (case k27 => k_is); (case a2 => k_is); (case l2 => k_is)
    (case c2 => k_is); (case k2 => k_is); (case a11 => k_is); (case l11 => k_is); (case c11 => k_is); (case k11 => k_is)
    (case a0 => k_is); (case l0 => k_is); (case c0 => k_is); (case k0 => k_is); (case a12 => k_is); (case l12 => k_is)
    (case c12 => k_is); (case k12 => k_is); (case a19 => k_is); (case l19 => k_is); (case c19 => k_is); (case k19 => k_is)
    (case a18 => k_is); (case l18 => k_is); (case c18 => k_is); (case k18 => k_is); (case a35 => k_is); (case l35 => k_is)
    (case c35 => k_is); (case k35 => k_is); (case a39 => k_is); (case l39 => k_is); (case c39 => k_is); (case k39 => k_is)
    (case a17 => k_is); (case l17 => k_is); (case c17 => k_is); (case k17 => k_is); (case a21 => k_is); (case l21 => k_is)
    (case c21 => k_is); (case k21 => k_is); (case a8 => k_is); (case l8 => k_is); (case c8 => k_is); (case k8 => k_is)
    (case a37 => k_is); (case l37 => k_is); (case c37 => k_is); (case k37 => k_is); (case a45 => k_is); (case l45 => k_is)
    (case c45 => k_is); (case k45 => k_is); (case a42 => k_is); (case l42 => k_is); (case c42 => k_is); (case k42 => k_is)
    (case a32 => k_is); (case l32 => k_is); (case c32 => k_is); (case k32 => k_is); (case a31 => k_is); (case l31 => k_is)
    (case c31 => k_is); (case k31 => k_is); (case a5 => k_is); (case l5 => k_is); (case c5 => k_is); (case k5 => k_is)
    (case a15 => k_is); (case l15 => k_is); (case c15 => k_is); (case k15 => k_is); (case a34 => k_is); (case l34 => k_is)
    (case c34 => k_is); (case k34 => k_is); (case a33 => k_is); (case l33 => k_is); (case c33 => k_is); (case k33 => k_is)
    (case a29 => k_is); (case l29 => k_is); (case c29 => k_is); (case k29 => k_is); (case a36 => k_is); (case l36 => k_is)
    (case c36 => k_is); (case k36 => k_is); (case a26 => k_is); (case l26 => k_is); (case c26 => k_is); (case k26 => k_is)
    (case a7 => k_is); (case l7 => k_is); (case c7 => k_is); (case k7 => k_is); (case a38 => k_is); (case l38 => k_is)
    (case c38 => k_is); (case k38 => k_is); (case a24 => k_is); (case l24 => k_is); (case c24 => k_is); (case k24 => k_is)
    (case a13 => k_is); (case l13 => k_is); (case c13 => k_is); (case k13 => k_is); (case a9 => k_is); (case l9 => k_is)
    (case c9 => k_is); (case k9 => k_is); (case a14 => k_is); (case l14 => k_is); (case c14 => k_is); (case k14 => k_is)
    (case a10 => k_is); (case l10 => k_is); (case c10 => k_is); (case k10 => k_is); (case a41 => k_is); (case l41 => k_is)
    (case c41 => k_is); (case k41 => k_is); (case a25 => k_is); (case l25 => k_is); (case c25 => k_is); (case k25 => k_is)
    (case a30 => k_is); (case l30 => k_is); (case c30 => k_is); (case k30 => k_is); (case a22 => k_is); (case l22 => k_is)
    (case c22 => k_is); (case k22 => k_is); (case a20 => k_is); (case l20 => k_is); (case c20 => k_is); (case k20 => k_is)
    (case a23 => k_is); (case l23 => k_is); (case c23 => k_is); (case k23 => k_is); (case a40 => k_is); (case l40 => k_is)
    (case c40 => k_is); (case k40 => k_is); (case a44 => k_is); (case l44 => k_is); (case c44 => k_is); (case k44 => k_is)
    (case a43 => k_is); (case l43 => k_is); (case c43 => k_is); (case k43 => k_is); (case a46 => k_is); (case l46 => k_is)
    (case c46 => k_is); (case k46 => k_is); (case z_LookupError => k_is); (case z_ValueError => k_is); (case z_all => k_is); (case z_any => k_is)
    (case z_bool => k_is); (case z_dict => k_is); (case z_enumerate => k_is); (case z_int => k_is); (case z_isinstance => k_is); (case z_len => k_is)
    (case z_list => k_is); (case z_range => k_is); (case z_set => k_is); (case z_sorted => k_is); (case z_str => k_is); (case z_sum => k_is)
    (case z_tuple => k_is); (case z_zip => k_is); (case p_MARKS => k_is); (case p_NOUGHT => k_is); (case p_PAIR => k_is); (case p_STRONG => k_is)
    (case g_factorial => k_is); (case ea0 => k_is); (case eq0 => k_exc); (case ek0 => k_is); (case es0 => k_is); (case et0 => k_is)
    (case ed0 => k_is); (case eb0 => k_is); (case ec0 => k_is); (case ee0 => k_is); (case em0 => k_is); (case ea1 => k_is)
    (case eq1 => k_exc); (case ek1 => k_is); (case es1 => k_is); (case et1 => k_is); (case ed1 => k_is); (case eb1 => k_is)
    (case ec1 => k_is); (case ee1 => k_is); (case em1 => k_is); (case xn => k_is); (case xt => k_is); (case xs_NoPaper_0 => k_is)
    (case xs_NoPaper_1 => k_is); (case xs_Unfit_0 => k_is); (case xs_Unfit_1 => k_is); (case xk_LookupError_0 => k_is); (case xk_LookupError_1 => k_is); (case xk_ValueError_0 => k_is)
    (case xk_ValueError_1 => k_is)
