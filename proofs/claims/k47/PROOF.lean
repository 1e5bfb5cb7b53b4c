import PyProof.Rows.All
import Wide.All
import OpenK.AllK
import Wide.FinOn
import HandS.ForMost
import HandS.ForExc
import HandS.IsInst
import HandS.Deep
import HandS.TupAny
import HandS.TupMul
import HandS.WideBits
import HandS.Zip
import HandS.SetKeys
import HandS.DictComp
import HandS.Style
import HandS.Wide
import HandS.Small
import HandS.SortInts
import HandS.TupLen
import HandS.Codes
import PyProof.DictMoreH
import HandS.NoneIn
import KE.GoesMore
import KE.SortData
import KE.KeyNested
import HandS.Words
import HandS.Defaults
import HandS.Head0
import HandS.Head1
import HandS.Head2
import HandS.HeadEnd
import HandS.HeadHook1
import HandS.HeadHook2
import HandS.Sort
import HandS.SortKw
import HandS.More
import KE.KTupSum
import KE.KDictCopyH
import KE.KDictSum
import PyProof.DictUpdate
import KE.KStateDown
import Lean
import HandS.Ends
import HandS.WordsExc
import HandS.HeadHook4
import PySem.Challenge.RW_wentback_k47_whole_logs_of_locks_and_joi
set_option Elab.async false
set_option linter.all false
set_option maxRecDepth 100000
set_option maxHeartbeats 0
noncomputable section
/-! A memory by numbers, kept beside the abstract heap: what is run is a Lean function over it. -/
namespace Sh
open PySem PySem.Spec PyProof.Rows L2

/-! ### a tree by binary places -/
inductive Tr (α : Type) where
  | nil
  | node (o : Option α) (l r : Tr α)
namespace Tr
variable {α : Type}
/-- the place 0 stands at the root; k + 1 goes left for even k, right for odd k, with the half of k -/
def get : Tr α → Nat → Option α
  | .nil, _ => none
  | .node o l r, n => match n with
    | 0 => o
    | k + 1 => cond (Nat.beq (k % 2) 0) (get l (k / 2)) (get r (k / 2))
def set : Nat → Tr α → Nat → α → Tr α
  | 0, t, _, _ => t
  | f + 1, t, n, a => match t with
    | .nil => (match n with
      | 0 => .node (some a) .nil .nil
      | k + 1 => cond (Nat.beq (k % 2) 0) (.node none (set f .nil (k / 2) a) .nil) (.node none .nil (set f .nil (k / 2) a)))
    | .node o l r => (match n with
      | 0 => .node (some a) l r
      | k + 1 => cond (Nat.beq (k % 2) 0) (.node o (set f l (k / 2) a) r) (.node o l (set f r (k / 2) a)))
theorem get_nil (n : Nat) : get (.nil : Tr α) n = none := by unfold get; rfl
theorem beq0 {k : Nat} : Nat.beq (k % 2) 0 = true ∨ Nat.beq (k % 2) 0 = false := by
  cases Nat.beq (k % 2) 0 <;> simp
theorem beqT {k : Nat} (h : Nat.beq (k % 2) 0 = true) : k % 2 = 0 := Nat.eq_of_beq_eq_true h
theorem beqF {k : Nat} (h : Nat.beq (k % 2) 0 = false) : k % 2 = 1 := by
  have : k % 2 ≠ 0 := fun e => by rw [e] at h; cases h
  omega
theorem set_nil (f k : Nat) (a : α) : set (f + 1) .nil (k + 1) a = cond (Nat.beq (k % 2) 0) (.node none (set f .nil (k / 2) a) .nil) (.node none .nil (set f .nil (k / 2) a)) := rfl
theorem set_node (f k : Nat) (o : Option α) (l r : Tr α) (a : α) : set (f + 1) (.node o l r) (k + 1) a = cond (Nat.beq (k % 2) 0) (.node o (set f l (k / 2) a) r) (.node o l (set f r (k / 2) a)) := rfl
theorem get_node (k : Nat) (o : Option α) (l r : Tr α) : get (.node o l r) (k + 1) = cond (Nat.beq (k % 2) 0) (get l (k / 2)) (get r (k / 2)) := rfl
theorem get_set_same : ∀ (f : Nat) (t : Tr α) (n : Nat) (a : α), n < 2 ^ f → get (set (f + 1) t n a) n = some a := by
  intro f
  induction f with
  | zero =>
    intro t n a h
    have : n = 0 := by omega
    subst this
    cases t <;> rfl
  | succ f ih =>
    intro t n a h
    cases n with
    | zero => cases t <;> rfl
    | succ k =>
      have hk : k / 2 < 2 ^ f := by
        have : 2 ^ (f + 1) = 2 * 2 ^ f := by rw [Nat.pow_succ, Nat.mul_comm]
        omega
      cases t with
      | nil =>
        rw [set_nil]
        rcases beq0 (k := k) with e | e
        · rw [e, cond_true, get_node, e, cond_true]
          exact ih _ _ _ hk
        · rw [e, cond_false, get_node, e, cond_false]
          exact ih _ _ _ hk
      | node o l r =>
        rw [set_node]
        rcases beq0 (k := k) with e | e
        · rw [e, cond_true, get_node, e, cond_true]
          exact ih _ _ _ hk
        · rw [e, cond_false, get_node, e, cond_false]
          exact ih _ _ _ hk
theorem get_set_ne : ∀ (f : Nat) (t : Tr α) (n m : Nat) (a : α), m ≠ n → get (set f t n a) m = get t m := by
  intro f
  induction f with
  | zero => intro t n m a h; rfl
  | succ f ih =>
    intro t n m a h
    cases t with
    | nil =>
      cases n with
      | zero =>
        cases m with
        | zero => exact absurd rfl h
        | succ j =>
          show get (.node (some a) .nil .nil) (j + 1) = none
          rw [get_node]
          cases Nat.beq (j % 2) 0 <;> rfl
      | succ k =>
        rw [set_nil, get_nil]
        cases m with
        | zero => rcases beq0 (k := k) with e | e <;> rw [e] <;> rfl
        | succ j =>
          rcases beq0 (k := k) with e | e <;> rcases beq0 (k := j) with e2 | e2
          · rw [e, cond_true, get_node, e2, cond_true, ih _ _ _ _ (by have := beqT e; have := beqT e2; omega)]
            exact get_nil _
          · rw [e, cond_true, get_node, e2, cond_false]
            exact get_nil _
          · rw [e, cond_false, get_node, e2, cond_true]
            exact get_nil _
          · rw [e, cond_false, get_node, e2, cond_false, ih _ _ _ _ (by have := beqF e; have := beqF e2; omega)]
            exact get_nil _
    | node o l r =>
      cases n with
      | zero =>
        cases m with
        | zero => exact absurd rfl h
        | succ j => rfl
      | succ k =>
        rw [set_node]
        cases m with
        | zero => rcases beq0 (k := k) with e | e <;> rw [e] <;> rfl
        | succ j =>
          rw [get_node]
          rcases beq0 (k := k) with e | e <;> rcases beq0 (k := j) with e2 | e2
          · rw [e, cond_true, get_node, e2, cond_true, cond_true]
            exact ih _ _ _ _ (by have := beqT e; have := beqT e2; omega)
          · rw [e, cond_true, get_node, e2, cond_false, cond_false]
          · rw [e, cond_false, get_node, e2, cond_true, cond_true]
          · rw [e, cond_false, get_node, e2, cond_false, cond_false]
            exact ih _ _ _ _ (by have := beqF e; have := beqF e2; omega)
end Tr

/-! ### texts, quickly -/
noncomputable def lEq (l : List Nat) : List Nat → Bool := List.rec (motive := fun _ => List Nat → Bool) (fun m => List.rec (motive := fun _ => Bool) true (fun _ _ _ => false) m) (fun a _ ih m => List.rec (motive := fun _ => Bool) false (fun b q _ => Bool.rec false (ih q) (Nat.beq a b)) m) l
noncomputable def sEq (x y : Str) : Bool := lEq x.cps.toList y.cps.toList
theorem lEq_iff : ∀ l m : List Nat, lEq l m = true ↔ l = m
  | [], [] => ⟨fun _ => rfl, fun _ => rfl⟩
  | [], _ :: _ => Iff.intro (fun h => (Bool.false_ne_true h).elim) (fun h => by simp at h)
  | _ :: _, [] => Iff.intro (fun h => (Bool.false_ne_true h).elim) (fun h => by simp at h)
  | a :: l, b :: m => by
    show (Bool.rec false (lEq l m) (Nat.beq a b) : Bool) = true ↔ _
    cases e : Nat.beq a b with
    | true =>
      have := Nat.eq_of_beq_eq_true e
      subst this
      show lEq l m = true ↔ _
      rw [lEq_iff l m]
      simp
    | false =>
      refine ⟨fun h => (nomatch (show false = true from h)), fun h => ?_⟩
      have h1 := (List.cons.inj h).1
      subst h1
      rw [Nat.beq_refl] at e
      cases e
theorem sEq_iff (x y : Str) : sEq x y = true ↔ x = y := by
  unfold sEq
  rw [lEq_iff]
  constructor
  · intro h
    cases x; cases y
    congr 1
    exact Array.toList_inj.mp h
  · intro h
    rw [h]
theorem sEq_dec (x y : Str) [Decidable (x = y)] : sEq x y = decide (x = y) := by
  rw [Bool.eq_iff_iff, sEq_iff, decide_eq_true_iff]
/-! ### values and things -/
inductive U where
  | non | bl (b : Bool) | int (i : Int) | str (x : Str) | ref (n : Nat)
  /-- an int that is told by its parity alone: at least 0 -/
  | dr (b : Bool)
  /-- the number that was drawn first, and k; an int that nothing is known of -/
  | num (k : Int) | any
  deriving DecidableEq
inductive Ob where
  | lst (xs : List U)
  /-- a tuple that is tracked; one of the written part -/
  | tup (xs : List U) | ktup (xs : List U)
  | dK (kvs : List (Key × U)) | dT (kvs : List (List Key × U))
  /-- an instance of the c-th class -/
  | ins (c : Nat) (fs : List (Str × U))
  /-- the script -/
  | frz (xs : List U)
  /-- the script's copy; the state of the draws, with the draws to come -/
  | src (ls : List (Int × U)) | scr | drw (r : Nat) (ls : List (Int × U))
def Ob.mut : Ob → Bool
  | .lst _ => true | .dK _ => true | .dT _ => true | .ins _ _ => true | .scr => true | .drw _ _ => true | _ => false
structure Mem where
  t : Tr Ob
  n : Nat
def Mem.get (m : Mem) (i : Nat) : Option Ob := m.t.get i
def Mem.put (m : Mem) (i : Nat) (o : Ob) : Mem := ⟨m.t.set 41 i o, m.n⟩
def Mem.new (m : Mem) (o : Ob) : Mem := ⟨m.t.set 41 m.n o, m.n + 1⟩
/-- the largest number of things -/
def most : Nat := 2 ^ 40
theorem Mem.put_same {m : Mem} {i : Nat} {o : Ob} (h : i < most) : (m.put i o).get i = some o := Tr.get_set_same 40 m.t i o h
theorem Mem.put_ne {m : Mem} {i j : Nat} {o : Ob} (h : j ≠ i) : (m.put i o).get j = m.get j := Tr.get_set_ne 41 m.t i j o h
theorem Mem.new_same {m : Mem} {o : Ob} (h : m.n < most) : (m.new o).get m.n = some o := Tr.get_set_same 40 m.t m.n o h
theorem Mem.new_ne {m : Mem} {j : Nat} {o : Ob} (h : j ≠ m.n) : (m.new o).get j = m.get j := Tr.get_set_ne 41 m.t m.n j o h

/-! ### a memory beside an abstract heap -/
def RV (ρ : List Addr) : U → V → Prop
  | .non, v => v = .non
  | .bl b, v => v = .bl b
  | .int i, v => v = .int i
  | .str x, v => v = .str x
  | .ref n, v => ∃ a, ρ[n]? = some a ∧ v = .ref a
  | .dr b, v => ∃ z : Int, v = .int z ∧ 0 ≤ z ∧ z % 2 = (if b = true then 1 else 0)
  | .num k, v => ∃ a : Nat, ρ[1]? = some a ∧ a ≤ 8 ∧ v = .int ((a : Int) + k)
  | .any, v => ∃ z : Int, v = .int z
abbrev RVs (ρ : List Addr) : List U → List V → Prop := Paired (RV ρ)
def RKV {κ : Type} (ρ : List Addr) : List (κ × U) → List (κ × V) → Prop := Paired fun p q => p.1 = q.1 ∧ RV ρ p.2 q.2
/-- a tuple of the written part -/
def KTup (K : PySem.W.Frag) (a : Addr) (xs : List V) : Prop :=
  ∃ (o : Obj) (its : Array Value) (n : Nat), K.lookup a = some o ∧ o.cls = .type "tuple" ∧ o.data = .seq its n ∧ its.size ≤ sizeLine ∧ Vals xs its.toList
/-- a list of the written part -/
def KLst (K : PySem.W.Frag) (a : Addr) (xs : List V) : Prop :=
  ∃ (o : Obj) (its : Array Value) (n : Nat), K.lookup a = some o ∧ o.cls = .type "list" ∧ o.dict = none ∧ o.data = .seq its n ∧ its.size ≤ sizeLine ∧ Vals xs its.toList
/-- one draw: the value, and what is next: the place, the cell under way, the sum -/
def dA (zs : List Int) (i t c : Int) : Int × Int × Int := if t = 0 ∧ i < zs.length then (i + 1, (if 10 ^ 18 ≤ zs.getD i.toNat 0 then zs.getD i.toNat 0 else t), (c * 48271 + zs.getD i.toNat 0 + 13) % 2147483647) else (i, t, c)
def dB (l : Int) (p : Int × Int × Int) : Int × Int × Int × Int := if 0 < p.2.1 then (p.2.1 % l, p.1, p.2.1 / l, p.2.2) else (((p.2.2 * 69621 + 7) % 2147483629) / 11 % l, p.1, p.2.1, (p.2.2 * 69621 + 7) % 2147483629)
def RV0 (d : Nat) : U → Int → Prop
  | .int i, z => z = i
  | .num k, z => d ≤ 8 ∧ z = (d : Int) + k
  | .dr b, z => 0 ≤ z ∧ z % 2 = (if b = true then 1 else 0)
  | _, _ => False
/-- the draws to come from here -/
def Fut (zs : List Int) (d : Nat) : Int → Int → Int → List (Int × U) → Prop
  | _, _, _, [] => True
  | i, t, c, (l, u) :: r => 0 ≤ i ∧ 0 < l ∧ l < 1000 ∧ RV0 d u (dB l (dA zs i t c)).1 ∧ Fut zs d (dB l (dA zs i t c)).2.1 (dB l (dA zs i t c)).2.2.1 (dB l (dA zs i t c)).2.2.2 r
/-- what the classes are, and the script -/
structure Cd where
  ca : Nat → Addr
  zs : List Int
instance : CoeFun Cd (fun _ => Nat → Addr) := ⟨Cd.ca⟩
structure Wd where
  K : PySem.W.Frag
  CA : Cd
def RO (W : Wd) (ρ : List Addr) (H : Hp) (a : Addr) : Ob → Prop
  | .lst xs => ∃ vs, H a = some (.lst vs) ∧ RVs ρ xs vs
  | .tup xs => ∃ vs, H a = some (.tup vs) ∧ RVs ρ xs vs
  | .ktup xs => ∃ vs, KTup W.K a vs ∧ RVs ρ xs vs
  | .dK kvs => ∃ ws, H a = some (.dK ws) ∧ RKV ρ kvs ws
  | .dT kvs => ∃ ws, H a = some (.dT ws) ∧ RKV ρ kvs ws
  | .ins c fs => ∃ dx ws, H a = some (.ins (W.CA c) dx ws) ∧ RKV ρ fs ws
  | .frz xs => ∃ o vs, H a = some (.frz o (.lst vs)) ∧ RVs ρ xs vs
  | .src ls => ∃ d : Addr, ρ[1]? = some d ∧ ((∃ o : Obj, H a = some (.frz o (.lst (W.CA.zs.map V.int)))) ∨ KLst W.K a (W.CA.zs.map V.int)) ∧ Fut W.CA.zs d 0 0 1 ls
  | .scr => H a = some (.lst (W.CA.zs.map V.int))
  | .drw r ls => ∃ (b d : Addr) (i t c : Int), ρ[r]? = some b ∧ ρ[1]? = some d ∧ H a = some (.lst [.ref b, .int i, .int t, .int c]) ∧ Fut W.CA.zs d i t c ls
structure R (W : Wd) (ρ : List Addr) (m : Mem) (H : Hp) : Prop where
  len : ρ.length = m.n
  inj : ∀ (i j : Nat) (a : Addr) (o o' : Ob), ρ[i]? = some a → ρ[j]? = some a → m.get i = some o → m.get j = some o' → o.mut = true → o'.mut = true → i = j
  obj : ∀ (i : Nat) (a : Addr) (o : Ob), ρ[i]? = some a → m.get i = some o → RO W ρ H a o
  low : m.n ≤ most

theorem at_mono {ρ ρ' : List Addr} (h : ρ <+: ρ') {n : Nat} {a : Addr} (e : ρ[n]? = some a) : ρ'[n]? = some a := by
  obtain ⟨l, rfl⟩ := h
  rw [List.getElem?_append_left (List.getElem?_eq_some_iff.mp e).1]
  exact e
theorem RV.mono {ρ ρ' : List Addr} (h : ρ <+: ρ') : ∀ {u : U} {v : V}, RV ρ u v → RV ρ' u v
  | .non, _, e => e
  | .bl _, _, e => e
  | .int _, _, e => e
  | .str _, _, e => e
  | .ref n, _, ⟨a, e, e'⟩ => ⟨a, by
    obtain ⟨l, rfl⟩ := h
    rw [List.getElem?_append_left (List.getElem?_eq_some_iff.mp e).1]
    exact e, e'⟩
  | .dr _, _, e => e
  | .num _, _, ⟨a, e, l, e'⟩ => ⟨a, at_mono h e, l, e'⟩
  | .any, _, e => e
theorem RVs.mono {ρ ρ' : List Addr} (h : ρ <+: ρ') {us : List U} {vs : List V} (r : RVs ρ us vs) : RVs ρ' us vs := Paired.mono (fun _ _ => RV.mono h) r
theorem RKV.mono {κ : Type} {ρ ρ' : List Addr} (h : ρ <+: ρ') {us : List (κ × U)} {vs : List (κ × V)} (r : RKV ρ us vs) : RKV ρ' us vs := Paired.mono (fun _ _ z => ⟨z.1, RV.mono h z.2⟩) r
theorem RO.mono {W : Wd} {ρ ρ' : List Addr} {H : Hp} {a : Addr} (h : ρ <+: ρ') : ∀ {o : Ob}, RO W ρ H a o → RO W ρ' H a o
  | .lst _, ⟨vs, e, r⟩ => ⟨vs, e, r.mono h⟩
  | .tup _, ⟨vs, e, r⟩ => ⟨vs, e, r.mono h⟩
  | .ktup _, ⟨vs, e, r⟩ => ⟨vs, e, r.mono h⟩
  | .dK _, ⟨vs, e, r⟩ => ⟨vs, e, r.mono h⟩
  | .dT _, ⟨vs, e, r⟩ => ⟨vs, e, r.mono h⟩
  | .ins _ _, ⟨dx, vs, e, r⟩ => ⟨dx, vs, e, r.mono h⟩
  | .frz _, ⟨o, vs, e, r⟩ => ⟨o, vs, e, r.mono h⟩
  | .src _, ⟨d, e, e', q⟩ => ⟨d, at_mono h e, e', q⟩
  | .scr, e => e
  | .drw _ _, ⟨b, d, i, t, c, e, e2, e', q⟩ => ⟨b, d, i, t, c, at_mono h e, at_mono h e2, e', q⟩
/-- another heap that has the same at a -/
theorem RO.at {W : Wd} {ρ : List Addr} {H H' : Hp} {a : Addr} (k : ∀ u, H a = some u → H' a = some u) : ∀ {o : Ob}, RO W ρ H a o → RO W ρ H' a o
  | .lst _, ⟨vs, e, r⟩ => ⟨vs, k _ e, r⟩
  | .tup _, ⟨vs, e, r⟩ => ⟨vs, k _ e, r⟩
  | .ktup _, ⟨vs, e, r⟩ => ⟨vs, e, r⟩
  | .dK _, ⟨vs, e, r⟩ => ⟨vs, k _ e, r⟩
  | .dT _, ⟨vs, e, r⟩ => ⟨vs, k _ e, r⟩
  | .ins _ _, ⟨dx, vs, e, r⟩ => ⟨dx, vs, k _ e, r⟩
  | .frz _, ⟨o, vs, e, r⟩ => ⟨o, vs, k _ e, r⟩
  | .src _, ⟨d, e, e', q⟩ => ⟨d, e, e'.imp (fun ⟨o, z⟩ => ⟨o, k _ z⟩) id, q⟩
  | .scr, e => k _ e
  | .drw _ _, ⟨b, d, i, t, c, e, e2, e', q⟩ => ⟨b, d, i, t, c, e, e2, k _ e', q⟩
theorem RO.there {W : Wd} {ρ : List Addr} {H : Hp} {a : Addr} {o : Ob} (r : RO W ρ H a o) (hm : o.mut = true) : ∃ u, H a = Option.some u := by
  cases o with
  | lst _ => obtain ⟨vs, e, _⟩ := r; exact ⟨_, e⟩
  | dK _ => obtain ⟨vs, e, _⟩ := r; exact ⟨_, e⟩
  | dT _ => obtain ⟨vs, e, _⟩ := r; exact ⟨_, e⟩
  | ins _ _ => obtain ⟨dx, vs, e, _⟩ := r; exact ⟨_, e⟩
  | tup _ => cases hm
  | ktup _ => cases hm
  | frz _ => cases hm
  | src _ => cases hm
  | scr => exact ⟨_, r⟩
  | drw _ _ => obtain ⟨b, d, i, t, c, _, _, e, _⟩ := r; exact ⟨_, e⟩
/-- a thing that may not be written is no other's place -/
theorem RO.off {W : Wd} {ρ : List Addr} {H : Hp} {a : Addr} {u u' : HO} (h : H a = some u) (hu : ∀ xs, u ≠ .tup xs) (hf : ∀ o xs, u ≠ .frz o xs) {o : Ob} (r : RO W ρ H a o) (hm : o.mut = false) : RO W ρ (upd H a u') a o := by
  cases o with
  | tup xs =>
    obtain ⟨vs, e, r⟩ := r
    exact absurd (Option.some.inj (h.symm.trans e)) (hu _)
  | ktup xs =>
    obtain ⟨vs, e, r⟩ := r
    exact ⟨vs, e, r⟩
  | frz xs =>
    obtain ⟨o, vs, e, r⟩ := r
    exact absurd (Option.some.inj (h.symm.trans e)) (hf _ _)
  | src ls =>
    obtain ⟨d, e, e', q⟩ := r
    exact ⟨d, e, .inr (e'.elim (fun ⟨o, z⟩ => absurd (Option.some.inj (h.symm.trans z)) (hf _ _)) id), q⟩
  | lst _ => cases hm
  | dK _ => cases hm
  | dT _ => cases hm
  | ins _ _ => cases hm
  | scr => cases hm
  | drw _ _ => cases hm

section
variable {W : Wd} {ρ : List Addr} {m : Mem} {H : Hp}
theorem pre_snoc (ρ : List Addr) (p : Addr) : ρ <+: ρ ++ [p] := List.prefix_append _ _
/-- a new thing -/
theorem R.new (r : R W ρ m H) {p : Addr} {o : Ob} {u : HO} (hp : H p = none) (hm : m.n < most) (ho : RO W (ρ ++ [p]) (upd H p u) p o) : R W (ρ ++ [p]) (m.new o) (upd H p u) := by
  have hl : ∀ (i : Nat) (a : Addr), (ρ ++ [p])[i]? = some a → (i < m.n ∧ ρ[i]? = some a) ∨ (i = m.n ∧ a = p) := fun i a e => by
    by_cases h : i < ρ.length
    · rw [List.getElem?_append_left h] at e
      exact .inl ⟨by rw [← r.len]; exact h, e⟩
    · rw [List.getElem?_append_right (by omega)] at e
      have hi : i - ρ.length = 0 := by
        have := (List.getElem?_eq_some_iff.mp e).1
        simp at this
        omega
      rw [hi] at e
      simp at e
      exact .inr ⟨by have := r.len; omega, e.symm⟩
  refine ⟨by rw [List.length_append, r.len]; rfl, fun i j a x y hi hj gi gj mi mj => ?_, fun i a x hi gi => ?_, by show m.n + 1 ≤ most; omega⟩
  · rcases hl i a hi with ⟨li, hi1⟩ | ⟨rfl, ea⟩ <;> rcases hl j a hj with ⟨lj, hj1⟩ | ⟨rfl, eb⟩
    · rw [Mem.new_ne (by omega)] at gi gj
      exact r.inj i j a x y hi1 hj1 gi gj mi mj
    · subst eb
      rw [Mem.new_ne (by omega)] at gi
      obtain ⟨u, e⟩ := RO.there (r.obj i _ x hi1 gi) mi
      rw [hp] at e; cases e
    · subst ea
      rw [Mem.new_ne (by omega)] at gj
      obtain ⟨u, e⟩ := RO.there (r.obj j _ y hj1 gj) mj
      rw [hp] at e; cases e
    · rfl
  · rcases hl i a hi with ⟨li, hi⟩ | ⟨rfl, rfl⟩
    · rw [Mem.new_ne (by omega)] at gi
      exact RO.at (fun u e => by rw [upd_ne (ne_of_none e hp)]; exact e) (RO.mono (pre_snoc ρ p) (r.obj i a x hi gi))
    · rw [Mem.new_same hm] at gi
      cases gi
      exact ho
/-- a thing is written -/
theorem R.put (r : R W ρ m H) {i : Nat} {a : Addr} {o o' : Ob} {u u' : HO} (hi : ρ[i]? = some a) (gi : m.get i = some o) (mi : o.mut = true) (hu : H a = some u) (ht : ∀ xs, u ≠ .tup xs) (hf : ∀ b xs, u ≠ .frz b xs)
    (hm : o'.mut = true) (ho : RO W ρ (upd H a u') a o') : R W ρ (m.put i o') (upd H a u') := by
  have li : i < most := by
    have h1 := (List.getElem?_eq_some_iff.mp hi).1
    have h2 := r.len
    have h3 := r.low
    omega
  refine ⟨r.len, fun j k b x y hj hk gj gk mj mk => ?_, fun j b x hj gj => ?_, r.low⟩
  · have back : ∀ (j : Nat) (x : Ob), (m.put i o').get j = some x → x.mut = true → ∃ x', m.get j = some x' ∧ x'.mut = true := fun j x g h => by
      by_cases e : j = i
      · subst e; exact ⟨o, gi, mi⟩
      · rw [Mem.put_ne e] at g; exact ⟨x, g, h⟩
    obtain ⟨x', gj', mj'⟩ := back j x gj mj
    obtain ⟨y', gk', mk'⟩ := back k y gk mk
    exact r.inj j k b x' y' hj hk gj' gk' mj' mk'
  · by_cases e : j = i
    · subst e
      rw [hi] at hj; cases hj
      rw [Mem.put_same li] at gj
      cases gj
      exact ho
    · rw [Mem.put_ne e] at gj
      have ro := r.obj j b x hj gj
      by_cases hb : b = a
      · subst hb
        cases hx : x.mut with
        | true => exact absurd (r.inj j i b x o hj hi gj gi hx mi) e
        | false => exact RO.off hu ht hf ro hx
      · exact RO.at (fun u e => by rw [upd_ne hb]; exact e) ro
end

/-! ### slots -/
abbrev S := List (Option U)
def RSo (ρ : List Addr) : Option U → Option V → Prop
  | some u, some v => RV ρ u v
  | none, none => True
  | _, _ => False
/-- a slot that is not told may hold anything -/
def RSl (ρ : List Addr) : Option U → Option V → Prop
  | some u, some v => RV ρ u v
  | none, _ => True
  | some _, none => False
theorem RSl.mono {ρ ρ' : List Addr} (h : ρ <+: ρ') : ∀ {a : Option U} {b : Option V}, RSl ρ a b → RSl ρ' a b
  | some _, some _, r => RV.mono h r
  | none, _, _ => trivial
abbrev Rs (ρ : List Addr) : S → L2.St → Prop := Paired (RSl ρ)
theorem RSo.mono {ρ ρ' : List Addr} (h : ρ <+: ρ') : ∀ {a : Option U} {b : Option V}, RSo ρ a b → RSo ρ' a b
  | some _, some _, r => RV.mono h r
  | none, none, _ => trivial
theorem Rs.mono {ρ ρ' : List Addr} (h : ρ <+: ρ') {a : S} {b : L2.St} (r : Rs ρ a b) : Rs ρ' a b := Paired.mono (fun _ _ => RSl.mono h) r
theorem Paired.get {α β : Type} {F : α → β → Prop} : ∀ {xs : List α} {ys : List β} {i : Nat} {x : α}, Paired F xs ys → xs[i]? = some x → ∃ y, ys[i]? = some y ∧ F x y
  | _, _, _, _, .nil, e => by simp at e
  | _, _, 0, _, .cons r _, e => by simp at e; subst e; exact ⟨_, rfl, r⟩
  | _, _, i + 1, x, .cons _ t, e => by
    obtain ⟨u, h1, h2⟩ := Paired.get (i := i) (x := x) t (by simpa using e)
    exact ⟨u, by simpa using h1, h2⟩
theorem Paired.set {α β : Type} {F : α → β → Prop} {x : α} {y : β} (r : F x y) : ∀ {xs : List α} {ys : List β} (i : Nat), Paired F xs ys → Paired F (xs.set i x) (ys.set i y)
  | _, _, _, .nil => .nil
  | _, _, 0, .cons _ t => .cons r t
  | _, _, i + 1, .cons q t => .cons q (Paired.set r i t)
theorem Paired.append {α β : Type} {F : α → β → Prop} : ∀ {xs ys : List α} {us ws : List β}, Paired F xs us → Paired F ys ws → Paired F (xs ++ ys) (us ++ ws)
  | _, _, _, _, .nil, s => s
  | _, _, _, _, .cons r t, s => .cons r (Paired.append t s)
theorem Paired.take {α β : Type} {F : α → β → Prop} : ∀ {xs : List α} {us : List β} (n : Nat), Paired F xs us → Paired F (xs.take n) (us.take n)
  | _, _, 0, _ => .nil
  | _, _, _ + 1, .nil => .nil
  | _, _, n + 1, .cons r t => .cons r (Paired.take n t)
theorem Paired.drop {α β : Type} {F : α → β → Prop} : ∀ {xs : List α} {us : List β} (n : Nat), Paired F xs us → Paired F (xs.drop n) (us.drop n)
  | _, _, 0, r => r
  | _, _, _ + 1, .nil => .nil
  | _, _, n + 1, .cons _ t => Paired.drop n t
theorem Paired.dropLast {α β : Type} {F : α → β → Prop} : ∀ {xs : List α} {us : List β}, Paired F xs us → Paired F xs.dropLast us.dropLast
  | _, _, .nil => .nil
  | _, _, .cons _ .nil => .nil
  | _, _, .cons r (.cons q t) => .cons r (Paired.dropLast (.cons q t))
theorem Paired.getN {α β : Type} {F : α → β → Prop} {xs : List α} {ys : List β} {i : Nat} (r : Paired F xs ys) (e : xs[i]? = none) : ys[i]? = none := by
  have h1 := Paired.length r
  have h2 : xs.length ≤ i := List.getElem?_eq_none_iff.mp e
  exact List.getElem?_eq_none_iff.mpr (by omega)
theorem RVs.map {ρ : List Addr} {α : Type} (f : α → U) (g : α → V) (h : ∀ a, RV ρ (f a) (g a)) : ∀ l : List α, RVs ρ (l.map f) (l.map g)
  | [] => .nil
  | a :: l => .cons (h a) (RVs.map f g h l)
theorem RV.int_inv {ρ : List Addr} {i : Int} {v : V} (r : RV ρ (.int i) v) : v = .int i := r
/-- the ints of a list of values -/
def ints? : List U → Option (List Int)
  | [] => some []
  | .int i :: r => (ints? r).map (i :: ·)
  | _ => none
theorem ints_of : ∀ {us : List U} {ns : List Int}, ints? us = some ns → us = ns.map U.int
  | [], ns, h => by cases h; rfl
  | .int i :: r, ns, h => by
    simp only [ints?, Option.map_eq_some_iff] at h
    obtain ⟨l, e, rfl⟩ := h
    rw [ints_of e]; rfl
  | .non :: _, _, h => by cases h
  | .bl _ :: _, _, h => by cases h
  | .str _ :: _, _, h => by cases h
  | .ref _ :: _, _, h => by cases h
def bls? : List U → Option (List Bool)
  | [] => some []
  | .bl i :: r => (bls? r).map (i :: ·)
  | _ => none
theorem bls_of : ∀ {us : List U} {ns : List Bool}, bls? us = some ns → us = ns.map U.bl
  | [], ns, h => by cases h; rfl
  | .bl i :: r, ns, h => by
    simp only [bls?, Option.map_eq_some_iff] at h
    obtain ⟨l, e, rfl⟩ := h
    rw [bls_of e]; rfl
  | .non :: _, _, h => by cases h
  | .int _ :: _, _, h => by cases h
  | .str _ :: _, _, h => by cases h
  | .ref _ :: _, _, h => by cases h
theorem ints_V {ρ : List Addr} : ∀ {ns : List Int} {vs : List V}, RVs ρ (ns.map U.int) vs → vs = ns.map V.int
  | [], _, .nil => rfl
  | _ :: _, _, .cons r t => by rw [show _ = V.int _ from r, ints_V t]; rfl
theorem bls_V {ρ : List Addr} : ∀ {ns : List Bool} {vs : List V}, RVs ρ (ns.map U.bl) vs → vs = ns.map V.bl
  | [], _, .nil => rfl
  | _ :: _, _, .cons r t => by rw [show _ = V.bl _ from r, bls_V t]; rfl
end Sh
end

noncomputable section
namespace Sh
open PySem PySem.Spec PyProof.Rows L2

/-! ### what is run -/
abbrev XE := S → Mem → Option (U × Mem)
abbrev XT := S → Mem → Option (Bool × Mem)
abbrev XA := S → Mem → Option (List U × Mem)
inductive Fl where
  | nx (s : S) | rt (u : U) | bk (s : S) | ct (s : S)
abbrev XS := S → Mem → Option (Fl × Mem)
abbrev XG := U → S → Mem → Option (S × Mem)
abbrev XF := List U → Mem → Option (U × Mem)
def bd {α β : Type} (o : Option (α × Mem)) (k : α → Mem → Option β) : Option β :=
  match o with
  | none => none
  | some (a, m) => k a m
theorem bd_inv {α β : Type} {o : Option (α × Mem)} {k : α → Mem → Option β} {b : β} (h : bd o k = some b) : ∃ a m, o = some (a, m) ∧ k a m = some b := by
  cases o with
  | none => cases h
  | some p => exact ⟨p.1, p.2, rfl, h⟩

/-! ### what is wanted of it -/
section
variable (W : Wd)
def SoE (t : TE) (f : XE) : Prop := ∀ s m u m', f s m = some (u, m') → ∀ ρ σ H Q, R W ρ m H → Rs ρ s σ → (∀ ρ' v H', ρ <+: ρ' → R W ρ' m' H' → RV ρ' u v → Q v H') → t σ H Q
def SoT (t : TT) (f : XT) : Prop := ∀ s m u m', f s m = some (u, m') → ∀ ρ σ H Q, R W ρ m H → Rs ρ s σ → (∀ ρ' H', ρ <+: ρ' → R W ρ' m' H' → Q u H') → t σ H Q
def SoA (t : TA) (f : XA) : Prop := ∀ s m us m', f s m = some (us, m') → ∀ ρ σ H Q, R W ρ m H → Rs ρ s σ → (∀ ρ' vs H', ρ <+: ρ' → R W ρ' m' H' → RVs ρ' us vs → Q vs H') → t σ H Q
def SoG (t : TG) (f : XG) : Prop := ∀ u s m s' m', f u s m = some (s', m') → ∀ ρ v σ H Q, R W ρ m H → Rs ρ s σ → RV ρ u v → (∀ ρ' σ' H', ρ <+: ρ' → R W ρ' m' H' → Rs ρ' s' σ' → Q σ' H') → t v σ H Q
def AfS (ρ : List Addr) (m' : Mem) (D : Ends) : Fl → Prop
  | .nx s' => ∀ ρ' σ' H', ρ <+: ρ' → R W ρ' m' H' → Rs ρ' s' σ' → D.nx σ' H'
  | .bk s' => ∀ ρ' σ' H', ρ <+: ρ' → R W ρ' m' H' → Rs ρ' s' σ' → D.bk σ' H'
  | .ct s' => ∀ ρ' σ' H', ρ <+: ρ' → R W ρ' m' H' → Rs ρ' s' σ' → D.ct σ' H'
  | .rt u => ∀ ρ' v H', ρ <+: ρ' → R W ρ' m' H' → RV ρ' u v → D.rt v H'
def SoS (t : TS) (f : XS) : Prop := ∀ s m fl m', f s m = some (fl, m') → ∀ ρ σ H D, R W ρ m H → Rs ρ s σ → AfS W ρ m' D fl → t D σ H
/-- operations by values -/
def SoR (r : V → V → Hp → VK → Prop) (g : U → U → Mem → Option (U × Mem)) : Prop := ∀ x y m u m', g x y m = some (u, m') → ∀ ρ vx vy H Q, R W ρ m H → RV ρ x vx → RV ρ y vy → (∀ ρ' v H', ρ <+: ρ' → R W ρ' m' H' → RV ρ' u v → Q v H') → r vx vy H Q
def SoR1 (r : V → Hp → VK → Prop) (g : U → Mem → Option (U × Mem)) : Prop := ∀ x m u m', g x m = some (u, m') → ∀ ρ vx H Q, R W ρ m H → RV ρ x vx → (∀ ρ' v H', ρ <+: ρ' → R W ρ' m' H' → RV ρ' u v → Q v H') → r vx H Q
def SoC (r : List V → Hp → VK → Prop) (g : XF) : Prop := ∀ us m u m', g us m = some (u, m') → ∀ ρ vs H Q, R W ρ m H → RVs ρ us vs → (∀ ρ' v H', ρ <+: ρ' → R W ρ' m' H' → RV ρ' u v → Q v H') → r vs H Q
/-- methods: the receiver and the arguments -/
def SoM (r : V → List V → Hp → VK → Prop) (g : U → List U → Mem → Option (U × Mem)) : Prop := ∀ x us m u m', g x us m = some (u, m') → ∀ ρ vx vs H Q, R W ρ m H → RV ρ x vx → RVs ρ us vs → (∀ ρ' v H', ρ <+: ρ' → R W ρ' m' H' → RV ρ' u v → Q v H') → r vx vs H Q
end
section
variable (CA : Cd) (X : Cx)
abbrev wd : Wd := ⟨X.K, CA⟩
structure SE (e : Expr) (t : TE) (f : XE) : Prop where
  pe : PE X e t
  so : SoE (wd CA X) t f
structure ST (e : Expr) (t : TT) (f : XT) : Prop where
  pe : PT X e t
  so : SoT (wd CA X) t f
structure SW (e : Expr) (t : TT) (f : XT) : Prop where
  pe : PW X e t
  so : SoT (wd CA X) t f
structure SA (es : List Expr) (t : TA) (f : XA) : Prop where
  pe : PA X es t
  so : SoA (wd CA X) t f
structure SG (e : Expr) (t : TG) (f : XG) : Prop where
  pe : PG X e t
  so : SoG (wd CA X) t f
structure SS (st : Stmt) (t : TS) (f : XS) : Prop where
  pe : PS X st t
  so : SoS (wd CA X) t f
structure SSs (sts : List Stmt) (t : TS) (f : XS) : Prop where
  pe : PSs X sts t
  so : SoS (wd CA X) t f
/-- a two-place operation -/
structure SO (op : Value → Value → Sem Value) (r : R2) (g : U → U → Mem → Option (U × Mem)) : Prop where
  pe : OpR X op r
  so : SoR (wd CA X) r g
structure SI (r : R2) (g : U → U → Mem → Option (U × Mem)) : Prop where
  pe : IxR X r
  so : SoR (wd CA X) r g
structure SC (f : Value) (r : List V → Hp → VK → Prop) (g : XF) : Prop where
  pe : CallR X f r
  so : SoC (wd CA X) r g
structure SM (id : String) (r : V → List V → Hp → VK → Prop) (g : U → List U → Mem → Option (U × Mem)) : Prop where
  pe : MtR X id r
  so : SoM (wd CA X) r g
end

/-! ### joining rules -/
section
variable {W : Wd}
theorem SoR.orL {r r' : R2} {g : U → U → Mem → Option (U × Mem)} (h : SoR W r g) : SoR W (fun x y H Q => r x y H Q ∨ r' x y H Q) g := fun x y m u m' e ρ vx vy H Q a b c d => .inl (h x y m u m' e ρ vx vy H Q a b c d)
theorem SoR.orR {r r' : R2} {g : U → U → Mem → Option (U × Mem)} (h : SoR W r' g) : SoR W (fun x y H Q => r x y H Q ∨ r' x y H Q) g := fun x y m u m' e ρ vx vy H Q a b c d => .inr (h x y m u m' e ρ vx vy H Q a b c d)
/-- the first that answers -/
def alt {α : Type} (a b : Option α) : Option α := match a with
  | some x => some x
  | none => b
theorem SoR.or {r r' : R2} {g g' : U → U → Mem → Option (U × Mem)} (h : SoR W r g) (h' : SoR W r' g') : SoR W (fun x y H Q => r x y H Q ∨ r' x y H Q) (fun x y m => alt (g x y m) (g' x y m)) := fun x y m u m' e ρ vx vy H Q a b c d => by
  cases q : g x y m with
  | some z =>
    have e' : (alt (g x y m) (g' x y m)) = some (u, m') := e
    rw [q] at e'
    have e2 : z = (u, m') := Option.some.inj e'
    subst e2
    exact .inl (h x y m u m' q ρ vx vy H Q a b c d)
  | none =>
    have e' : (alt (g x y m) (g' x y m)) = some (u, m') := e
    rw [q] at e'
    exact .inr (h' x y m u m' e' ρ vx vy H Q a b c d)
theorem SoC.or {r r' : List V → Hp → VK → Prop} {g g' : XF} (h : SoC W r g) (h' : SoC W r' g') : SoC W (fun xs H Q => r xs H Q ∨ r' xs H Q) (fun us m => alt (g us m) (g' us m)) := fun us m u m' e ρ vs H Q a b d => by
  cases q : g us m with
  | some z =>
    have e' : (alt (g us m) (g' us m)) = some (u, m') := e
    rw [q] at e'
    have e2 : z = (u, m') := Option.some.inj e'
    subst e2
    exact .inl (h us m u m' q ρ vs H Q a b d)
  | none =>
    have e' : (alt (g us m) (g' us m)) = some (u, m') := e
    rw [q] at e'
    exact .inr (h' us m u m' e' ρ vs H Q a b d)
end
section
variable {CA : Cd} {X : Cx}
theorem SO.or {op : Value → Value → Sem Value} {r r' : R2} {g g' : U → U → Mem → Option (U × Mem)} (h : SO CA X op r g) (h' : SO CA X op r' g') : SO CA X op (fun x y H Q => r x y H Q ∨ r' x y H Q) (fun x y m => alt (g x y m) (g' x y m)) :=
  ⟨OpR.or h.pe h'.pe, SoR.or h.so h'.so⟩
theorem SI.or {r r' : R2} {g g' : U → U → Mem → Option (U × Mem)} (h : SI CA X r g) (h' : SI CA X r' g') : SI CA X (fun x y H Q => r x y H Q ∨ r' x y H Q) (fun x y m => alt (g x y m) (g' x y m)) :=
  ⟨IxR.or h.pe h'.pe, SoR.or h.so h'.so⟩
theorem SC.or {f : Value} {r r' : List V → Hp → VK → Prop} {g g' : XF} (h : SC CA X f r g) (h' : SC CA X f r' g') : SC CA X f (fun xs H Q => r xs H Q ∨ r' xs H Q) (fun us m => alt (g us m) (g' us m)) :=
  ⟨CallR.or h.pe h'.pe, SoC.or h.so h'.so⟩
end

/-! ### reading a memory -/
section
variable {W : Wd} {ρ : List Addr} {m : Mem} {H : Hp}
theorem R.at {n : Nat} {a : Addr} {o : Ob} (r : R W ρ m H) (h : ρ[n]? = some a) (g : m.get n = some o) : RO W ρ H a o := r.obj n a o h g
/-- another heap that has all that was there -/
theorem R.same {H' : Hp} (r : R W ρ m H) (k : ∀ a u, H a = some u → H' a = some u) : R W ρ m H' :=
  ⟨r.len, r.inj, fun i a o h g => RO.at (fun u => k a u) (r.obj i a o h g), r.low⟩
def lstAt (m : Mem) : U → Option (List U)
  | .ref n => match m.get n with
    | some (.lst xs) => some xs
    | _ => none
  | _ => none
/-- a list that is read -/
def seqL (m : Mem) : U → Option (List U)
  | .ref n => match m.get n with
    | some (.lst xs) => some xs
    | some (.frz xs) => some xs
    | _ => none
  | _ => none
def seqT (m : Mem) : U → Option (List U)
  | .ref n => match m.get n with
    | some (.tup xs) => some xs
    | some (.ktup xs) => some xs
    | _ => none
  | _ => none
theorem lstAt_inv {x : U} {xs : List U} {v : V} (r : R W ρ m H) (h : lstAt m x = some xs) (rv : RV ρ x v) : ∃ n a vs, x = .ref n ∧ v = .ref a ∧ ρ[n]? = some a ∧ m.get n = some (.lst xs) ∧ H a = some (.lst vs) ∧ RVs ρ xs vs := by
  cases x with
  | ref n =>
    obtain ⟨a, ha, rfl⟩ := rv
    unfold lstAt at h
    cases g : m.get n with
    | none => simp only [g] at h; cases h
    | some o =>
      simp only [g] at h
      cases o with
      | lst ys =>
        cases h
        obtain ⟨vs, e, r'⟩ := r.at ha g
        exact ⟨n, a, vs, rfl, rfl, ha, g, e, r'⟩
      | _ => cases h
  | _ => cases h
theorem seqL_inv {x : U} {xs : List U} {v : V} (r : R W ρ m H) (h : seqL m x = some xs) (rv : RV ρ x v) : ∃ a vs, v = .ref a ∧ Rd H a (.lst vs) ∧ RVs ρ xs vs := by
  cases x with
  | ref n =>
    obtain ⟨a, ha, rfl⟩ := rv
    unfold seqL at h
    cases g : m.get n with
    | none => simp only [g] at h; cases h
    | some o =>
      simp only [g] at h
      cases o with
      | lst ys =>
        cases h
        obtain ⟨vs, e, r'⟩ := r.at ha g
        exact ⟨a, vs, rfl, .inl e, r'⟩
      | frz ys =>
        cases h
        obtain ⟨o, vs, e, r'⟩ := r.at ha g
        exact ⟨a, vs, rfl, .inr ⟨o, e⟩, r'⟩
      | _ => cases h
  | _ => cases h
theorem seqT_inv {x : U} {xs : List U} {v : V} (r : R W ρ m H) (h : seqT m x = some xs) (rv : RV ρ x v) : ∃ a vs, v = .ref a ∧ SqT W.K H a vs ∧ RVs ρ xs vs := by
  cases x with
  | ref n =>
    obtain ⟨a, ha, rfl⟩ := rv
    unfold seqT at h
    cases g : m.get n with
    | none => simp only [g] at h; cases h
    | some o =>
      simp only [g] at h
      cases o with
      | tup ys =>
        cases h
        obtain ⟨vs, e, r'⟩ := r.at ha g
        exact ⟨a, vs, rfl, .inl (.inl e), r'⟩
      | ktup ys =>
        cases h
        obtain ⟨vs, e, r'⟩ := r.at ha g
        exact ⟨a, vs, rfl, .inr e, r'⟩
      | _ => cases h
  | _ => cases h
/-- a new thing, guarded -/
def alloc (m : Mem) (o : Ob) : Option (U × Mem) := cond (Nat.blt m.n most) (some (.ref m.n, m.new o)) none
theorem alloc_inv {o : Ob} {u : U} {m' : Mem} (h : alloc m o = some (u, m')) : m.n < most ∧ u = .ref m.n ∧ m' = m.new o := by
  unfold alloc at h
  cases e : Nat.blt m.n most with
  | false => rw [e] at h; cases h
  | true =>
    rw [e] at h
    cases h
    exact ⟨Nat.lt_of_lt_of_le (Nat.lt_succ_self _) (Nat.le_of_ble_eq_true e), rfl, rfl⟩
/-- behind a new thing: the wanted end -/
theorem alloc_end {o : Ob} {u : U} {m' : Mem} {ho : HO} {p : Addr} {Q : VK} (r : R W ρ m H) (h : alloc m o = some (u, m')) (hp : H p = none) (k : RO W (ρ ++ [p]) (upd H p ho) p o)
    (q : ∀ ρ' v H', ρ <+: ρ' → R W ρ' m' H' → RV ρ' u v → Q v H') : Q (.ref p) (upd H p ho) := by
  obtain ⟨hm, rfl, rfl⟩ := alloc_inv h
  refine q (ρ ++ [p]) _ _ (pre_snoc ρ p) (r.new hp hm k) ⟨p, ?_, rfl⟩
  rw [← r.len]
  simp
theorem new_lst {p : Addr} {xs : List U} {vs : List V} (k : RVs ρ xs vs) : RO W (ρ ++ [p]) (upd H p (.lst vs)) p (.lst xs) := ⟨vs, upd_same, k.mono (pre_snoc ρ p)⟩
theorem new_tup {p : Addr} {xs : List U} {vs : List V} (k : RVs ρ xs vs) : RO W (ρ ++ [p]) (upd H p (.tup vs)) p (.tup xs) := ⟨vs, upd_same, k.mono (pre_snoc ρ p)⟩
theorem R.putLst {n : Nat} {a : Addr} {xs ys : List U} {vs ws : List V} (r : R W ρ m H) (hi : ρ[n]? = some a) (g : m.get n = some (.lst xs)) (e : H a = some (.lst vs)) (k : RVs ρ ys ws) : R W ρ (m.put n (.lst ys)) (upd H a (.lst ws)) :=
  r.put hi g rfl e (fun _ q => nomatch q) (fun _ _ q => nomatch q) rfl ⟨ws, upd_same, k⟩
end

/-! ### names, constants -/
section
variable {CA : Cd} {X : Cx} {a b c : Expr} {pos : Pos} {ta tb tc : TE} {fa fb fc : XE}
def xVar (i : Nat) : XE := fun s m => match s[i]? with
  | some (some u) => some (u, m)
  | _ => none
theorem so_var {W : Wd} {i : Nat} : SoE W (tVar i) (xVar i) := by
  intro s m u m' h ρ σ H Q r rs q
  unfold xVar at h
  cases e : s[i]? with
  | none => simp only [e] at h; cases h
  | some o =>
    simp only [e] at h
    cases o with
    | none => cases h
    | some w =>
      cases h
      obtain ⟨y, ey, ry⟩ := Paired.get rs e
      cases y with
      | none => exact ry.elim
      | some v => exact ⟨v, ey, q ρ v H (List.prefix_refl ρ) r ry⟩
theorem se_var {i : Nat} {x : Str} (h : PE X (.Name x pos) (tVar i)) : SE CA X (.Name x pos) (tVar i) (xVar i) := ⟨h, so_var⟩
def xC (u : U) : XE := fun _ m => some (u, m)
theorem so_c {W : Wd} {u : U} {v : V} (h : ∀ ρ, RV ρ u v) : SoE W (tC v) (xC u) := by
  intro s m w m' e ρ σ H Q r rs q
  cases e
  exact q ρ v H (List.prefix_refl ρ) r (h ρ)
theorem se_int {i j} : SE CA X (.Constant (.int i) j pos) (tC (.int i)) (xC (.int i)) := ⟨pe_int, so_c fun _ => rfl⟩
theorem se_bl {i j} : SE CA X (.Constant (.bool i) j pos) (tC (.bl i)) (xC (.bl i)) := ⟨pe_bl, so_c fun _ => rfl⟩
theorem se_non {j} : SE CA X (.Constant .none j pos) (tC .non) (xC .non) := ⟨pe_non, so_c fun _ => rfl⟩
/-- y: the text as it is to be run -/
theorem se_str {x y : Str} {j} (h : x = y := by rfl) : SE CA X (.Constant (.str x) j pos) (tC (.str x)) (xC (.str y)) := ⟨pe_str, so_c fun _ => congrArg V.str h⟩
/-- a constant of the module that is no thing -/
theorem se_glob {x : Str} {v : V} {u : U} {w : Value} (hg : Gl X x) (hm : X.mg x = some w) (r : RelV v w) (h : ∀ ρ, RV ρ u v) (hd : (x == ("__debug__" : Str)) = false := by decide) : SE CA X (.Name x pos) (tC v) (xC u) := ⟨pe_glob hg hm r hd, so_c h⟩
/-- what cannot be come to -/
def xNo {α : Type} : S → Mem → Option (α × Mem) := fun _ _ => none
theorem se_no : SE CA X a (fun _ _ _ => False) xNo := ⟨⟨fun _ _ _ _ _ _ h => h.elim⟩, fun _ _ _ _ h => nomatch h⟩

/-! ### operators -/
def xOp (g : U → U → Mem → Option (U × Mem)) (fa fb : XE) : XE := fun s m => bd (fa s m) fun x m1 => bd (fb s m1) fun y m2 => g x y m2
theorem so_op {W : Wd} {r : R2} {g : U → U → Mem → Option (U × Mem)} (hr : SoR W r g) (ha : SoE W ta fa) (hb : SoE W tb fb) : SoE W (tOp r ta tb) (xOp g fa fb) := by
  intro s m u m' h ρ σ H Q r0 rs q
  obtain ⟨x, m1, e1, h⟩ := bd_inv h
  obtain ⟨y, m2, e2, h⟩ := bd_inv h
  refine ha s m x m1 e1 ρ σ H _ r0 rs fun ρ1 v1 H1 p1 r1 rv1 => ?_
  refine hb s m1 y m2 e2 ρ1 σ H1 _ r1 (rs.mono p1) fun ρ2 v2 H2 p2 r2 rv2 => ?_
  exact hr x y m2 u m' h ρ2 v1 v2 H2 Q r2 (rv1.mono p2) rv2 fun ρ3 v H3 p3 r3 rv3 => q ρ3 v H3 (p1.trans (p2.trans p3)) r3 rv3
theorem se_op {op : Operator} {r : R2} {g : U → U → Mem → Option (U × Mem)} (ho : SO CA X (binaryOp op) r g) (ha : SE CA X a ta fa) (hb : SE CA X b tb fb) : SE CA X (.BinOp a op b pos) (tOp r ta tb) (xOp g fa fb) := ⟨pe_op ho.pe ha.pe hb.pe, so_op ho.so ha.so hb.so⟩
theorem se_cmp {op : CmpOp} {r : R2} {g : U → U → Mem → Option (U × Mem)} (ho : SO CA X (compareOp op) r g) (ha : SE CA X a ta fa) (hb : SE CA X b tb fb) (hm : behindInMarks op b = false := by rfl) : SE CA X (.Compare a [op] [b] pos) (tOp r ta tb) (xOp g fa fb) := ⟨pe_cmpR ho.pe ha.pe hb.pe hm, so_op ho.so ha.so hb.so⟩
def xUn (g : U → Mem → Option (U × Mem)) (fa : XE) : XE := fun s m => bd (fa s m) g
theorem so_un {W : Wd} {r : V → Hp → VK → Prop} {g : U → Mem → Option (U × Mem)} (hr : SoR1 W r g) (ha : SoE W ta fa) : SoE W (tUn r ta) (xUn g fa) := by
  intro s m u m' h ρ σ H Q r0 rs q
  obtain ⟨x, m1, e1, h⟩ := bd_inv h
  refine ha s m x m1 e1 ρ σ H _ r0 rs fun ρ1 v1 H1 p1 r1 rv1 => ?_
  exact hr x m1 u m' h ρ1 v1 H1 Q r1 rv1 fun ρ3 v H3 p3 r3 rv3 => q ρ3 v H3 (p1.trans p3) r3 rv3
def gNeg (x : U) (m : Mem) : Option (U × Mem) := match x with
  | .int i => some (.int (-i), m)
  | _ => none
theorem se_neg (ha : SE CA X a ta fa) : SE CA X (.UnaryOp .USub a pos) (tUn (rU fun i => .int (-i)) ta) (xUn gNeg fa) := ⟨pe_un un_neg ha.pe, so_un (by
  intro x m u m' h ρ vx H Q r rv q
  cases x with
  | int i => cases h; exact ⟨i, rv, q ρ _ H (List.prefix_refl ρ) r rfl⟩
  | _ => cases h) ha.so⟩

/-! chains -/
def xChain (g g' : U → U → Mem → Option (U × Mem)) (fa fb fc : XE) : XE := fun s m => bd (fa s m) fun x m1 => bd (fb s m1) fun y m2 => bd (g x y m2) fun z m3 => match z with
  | .bl true => bd (fc s m3) fun w m4 => g' y w m4
  | .bl false => some (.bl false, m3)
  | _ => none
theorem so_chain {W : Wd} {r r' : R2} {g g' : U → U → Mem → Option (U × Mem)} (hr : SoR W r g) (hr' : SoR W r' g') (ha : SoE W ta fa) (hb : SoE W tb fb) (hc : SoE W tc fc) : SoE W (tChain r r' ta tb tc) (xChain g g' fa fb fc) := by
  intro s m u m' h ρ σ H Q r0 rs q
  obtain ⟨x, m1, e1, h⟩ := bd_inv h
  obtain ⟨y, m2, e2, h⟩ := bd_inv h
  obtain ⟨z, m3, e3, h⟩ := bd_inv h
  refine ha s m x m1 e1 ρ σ H _ r0 rs fun ρ1 v1 H1 p1 r1 rv1 => ?_
  refine hb s m1 y m2 e2 ρ1 σ H1 _ r1 (rs.mono p1) fun ρ2 v2 H2 p2 r2 rv2 => ?_
  refine hr x y m2 z m3 e3 ρ2 v1 v2 H2 _ r2 (rv1.mono p2) rv2 fun ρ3 v3 H3 p3 r3 rv3 => ?_
  cases z with
  | bl k =>
    refine ⟨k, rv3, ?_⟩
    cases k with
    | true =>
      rw [if_pos rfl]
      obtain ⟨w, m4, e4, h⟩ := bd_inv h
      refine hc s m3 w m4 e4 ρ3 σ H3 _ r3 (rs.mono (p1.trans (p2.trans p3))) fun ρ4 v4 H4 p4 r4 rv4 => ?_
      exact hr' y w m4 u m' h ρ4 v2 v4 H4 Q r4 (rv2.mono (p3.trans p4)) rv4 fun ρ5 v H5 p5 r5 rv5 => q ρ5 v H5 (p1.trans (p2.trans (p3.trans (p4.trans p5)))) r5 rv5
    | false =>
      rw [if_neg Bool.false_ne_true]
      cases h
      exact q ρ3 _ H3 (p1.trans (p2.trans p3)) r3 rfl
  | _ => cases h
theorem se_chain {op op' : CmpOp} {r r' : R2} {g g' : U → U → Mem → Option (U × Mem)} (ho : SO CA X (compareOp op) r g) (ho' : SO CA X (compareOp op') r' g') (ha : SE CA X a ta fa) (hb : SE CA X b tb fb) (hc : SE CA X c tc fc)
    (he : PE X (.Compare a [op, op'] [b, c] pos) (tChain r r' ta tb tc)) : SE CA X (.Compare a [op, op'] [b, c] pos) (tChain r r' ta tb tc) (xChain g g' fa fb fc) := ⟨he, so_chain ho.so ho'.so ha.so hb.so hc.so⟩

/-! and, or, not as values; if .. else -/
def xAndV (fa fb : XE) : XE := fun s m => bd (fa s m) fun x m1 => match x with
  | .bl true => fb s m1
  | .bl false => some (.bl false, m1)
  | _ => none
def xOrV (fa fb : XE) : XE := fun s m => bd (fa s m) fun x m1 => match x with
  | .bl false => fb s m1
  | .bl true => some (.bl true, m1)
  | _ => none
def xNotV (fa : XE) : XE := fun s m => bd (fa s m) fun x m1 => match x with
  | .bl k => some (.bl (!k), m1)
  | _ => none
theorem so_andV {W : Wd} (ha : SoE W ta fa) (hb : SoE W tb fb) : SoE W (tAndV ta tb) (xAndV fa fb) := by
  intro s m u m' h ρ σ H Q r0 rs q
  obtain ⟨x, m1, e1, h⟩ := bd_inv h
  refine ha s m x m1 e1 ρ σ H _ r0 rs fun ρ1 v1 H1 p1 r1 rv1 => ?_
  cases x with
  | bl k =>
    refine ⟨k, rv1, ?_⟩
    cases k with
    | true => rw [if_pos rfl]; exact hb s m1 u m' h ρ1 σ H1 Q r1 (rs.mono p1) fun ρ2 v H2 p2 r2 rv2 => q ρ2 v H2 (p1.trans p2) r2 rv2
    | false => rw [if_neg Bool.false_ne_true]; cases h; exact q ρ1 _ H1 p1 r1 rfl
  | _ => cases h
theorem so_orV {W : Wd} (ha : SoE W ta fa) (hb : SoE W tb fb) : SoE W (tOrV ta tb) (xOrV fa fb) := by
  intro s m u m' h ρ σ H Q r0 rs q
  obtain ⟨x, m1, e1, h⟩ := bd_inv h
  refine ha s m x m1 e1 ρ σ H _ r0 rs fun ρ1 v1 H1 p1 r1 rv1 => ?_
  cases x with
  | bl k =>
    refine ⟨k, rv1, ?_⟩
    cases k with
    | false => rw [if_neg Bool.false_ne_true]; exact hb s m1 u m' h ρ1 σ H1 Q r1 (rs.mono p1) fun ρ2 v H2 p2 r2 rv2 => q ρ2 v H2 (p1.trans p2) r2 rv2
    | true => rw [if_pos rfl]; cases h; exact q ρ1 _ H1 p1 r1 rfl
  | _ => cases h
theorem so_notV {W : Wd} (ha : SoE W ta fa) : SoE W (tNotV ta) (xNotV fa) := by
  intro s m u m' h ρ σ H Q r0 rs q
  obtain ⟨x, m1, e1, h⟩ := bd_inv h
  refine ha s m x m1 e1 ρ σ H _ r0 rs fun ρ1 v1 H1 p1 r1 rv1 => ?_
  cases x with
  | bl k => cases h; exact ⟨k, rv1, q ρ1 _ H1 p1 r1 rfl⟩
  | _ => cases h
variable {rest : List Expr}
theorem se_one {op} (ha : SE CA X a ta fa) : SE CA X (.BoolOp op [a] pos) ta fa := ⟨pe_one ha.pe, ha.so⟩
theorem se_and (ha : SE CA X a ta fa) (hb : SE CA X (.BoolOp .And (b :: rest) pos) tb fb) : SE CA X (.BoolOp .And (a :: b :: rest) pos) (tAndV ta tb) (xAndV fa fb) := ⟨pe_and ha.pe hb.pe, so_andV ha.so hb.so⟩
theorem se_or (ha : SE CA X a ta fa) (hb : SE CA X (.BoolOp .Or (b :: rest) pos) tb fb) : SE CA X (.BoolOp .Or (a :: b :: rest) pos) (tOrV ta tb) (xOrV fa fb) := ⟨pe_or ha.pe hb.pe, so_orV ha.so hb.so⟩
theorem se_not (ha : SE CA X a ta fa) : SE CA X (.UnaryOp .Not a pos) (tNotV ta) (xNotV fa) := ⟨pe_not ha.pe, so_notV ha.so⟩

/-! ### tests -/
variable {tA tB' : TT} {gA gB : XT}
def xTv (fa : XE) : XT := fun s m => bd (fa s m) fun x m1 => match x with
  | .bl k => some (k, m1)
  | _ => none
theorem so_tv {W : Wd} (ha : SoE W ta fa) : SoT W (fun σ H Q => ta σ H fun x H1 => ∃ k, x = .bl k ∧ Q k H1) (xTv fa) := by
  intro s m u m' h ρ σ H Q r0 rs q
  obtain ⟨x, m1, e1, h⟩ := bd_inv h
  refine ha s m x m1 e1 ρ σ H _ r0 rs fun ρ1 v1 H1 p1 r1 rv1 => ?_
  cases x with
  | bl k => exact ⟨k, rv1, by cases h; exact q ρ1 H1 p1 r1⟩
  | _ => cases h
theorem st_val (ha : SE CA X a ta fa) (he : ∀ whole, isTrue a X.env whole = (do let v ← whole; standAt a.pos; holding [v] (truthy v)) := by intro _; rfl) : ST CA X a (tB ta) (xTv fa) := ⟨pt_val ha.pe he, so_tv ha.so⟩
theorem st_cmp {op : CmpOp} {r : R2} {g : U → U → Mem → Option (U × Mem)} (ho : SO CA X (compareOp op) r g) (ha : SE CA X a ta fa) (hb : SE CA X b tb fb) (hm : behindInMarks op b = false := by rfl) : ST CA X (.Compare a [op] [b] pos) (tTest (tOp r ta tb)) (xTv (xOp g fa fb)) :=
  ⟨pt_cmpR ho.pe ha.pe hb.pe hm, so_tv (so_op ho.so ha.so hb.so)⟩
def xAnd (f g : XT) : XT := fun s m => bd (f s m) fun k m1 => match k with
  | true => g s m1
  | false => some (false, m1)
def xOr (f g : XT) : XT := fun s m => bd (f s m) fun k m1 => match k with
  | true => some (true, m1)
  | false => g s m1
def xNot (f : XT) : XT := fun s m => bd (f s m) fun k m1 => some (!k, m1)
theorem so_and {W : Wd} (ha : SoT W tA gA) (hb : SoT W tB' gB) : SoT W (tAnd tA tB') (xAnd gA gB) := by
  intro s m u m' h ρ σ H Q r0 rs q
  obtain ⟨k, m1, e1, h⟩ := bd_inv h
  refine ha s m k m1 e1 ρ σ H _ r0 rs fun ρ1 H1 p1 r1 => ?_
  cases k with
  | true => rw [if_pos rfl]; exact hb s m1 u m' h ρ1 σ H1 Q r1 (rs.mono p1) fun ρ2 H2 p2 r2 => q ρ2 H2 (p1.trans p2) r2
  | false => rw [if_neg Bool.false_ne_true]; cases h; exact q ρ1 H1 p1 r1
theorem so_or {W : Wd} (ha : SoT W tA gA) (hb : SoT W tB' gB) : SoT W (tOr tA tB') (xOr gA gB) := by
  intro s m u m' h ρ σ H Q r0 rs q
  obtain ⟨k, m1, e1, h⟩ := bd_inv h
  refine ha s m k m1 e1 ρ σ H _ r0 rs fun ρ1 H1 p1 r1 => ?_
  cases k with
  | false => rw [if_neg Bool.false_ne_true]; exact hb s m1 u m' h ρ1 σ H1 Q r1 (rs.mono p1) fun ρ2 H2 p2 r2 => q ρ2 H2 (p1.trans p2) r2
  | true => rw [if_pos rfl]; cases h; exact q ρ1 H1 p1 r1
theorem so_not {W : Wd} (ha : SoT W tA gA) : SoT W (tNot tA) (xNot gA) := by
  intro s m u m' h ρ σ H Q r0 rs q
  obtain ⟨k, m1, e1, h⟩ := bd_inv h
  refine ha s m _ _ e1 ρ σ H _ r0 rs fun ρ1 H1 p1 r1 => ?_
  cases h
  exact q ρ1 H1 p1 r1
theorem SW.st (h : SW CA X a tA gA) : ST CA X a tA gA := ⟨h.pe.pt, h.so⟩
theorem sw_and1 (h : ST CA X a tA gA) : SW CA X (.BoolOp .And [a] pos) tA gA := ⟨pw_and1 h.pe, h.so⟩
theorem sw_or1 (h : ST CA X a tA gA) : SW CA X (.BoolOp .Or [a] pos) tA gA := ⟨pw_or1 h.pe, h.so⟩
theorem sw_and (ha : ST CA X a tA gA) (hb : SW CA X (.BoolOp .And (b :: rest) pos) tB' gB) : SW CA X (.BoolOp .And (a :: b :: rest) pos) (tAnd tA tB') (xAnd gA gB) := ⟨pw_and ha.pe hb.pe, so_and ha.so hb.so⟩
theorem sw_or (ha : ST CA X a tA gA) (hb : SW CA X (.BoolOp .Or (b :: rest) pos) tB' gB) : SW CA X (.BoolOp .Or (a :: b :: rest) pos) (tOr tA tB') (xOr gA gB) := ⟨pw_or ha.pe hb.pe, so_or ha.so hb.so⟩
theorem st_not (ha : ST CA X a tA gA) : ST CA X (.UnaryOp .Not a pos) (tNot tA) (xNot gA) := ⟨pt_not ha.pe, so_not ha.so⟩
def xIf (f : XT) (fa fb : XE) : XE := fun s m => bd (f s m) fun k m1 => match k with
  | true => fa s m1
  | false => fb s m1
theorem so_if {W : Wd} (hc : SoT W tA gA) (ha : SoE W ta fa) (hb : SoE W tb fb) : SoE W (tIf tA ta tb) (xIf gA fa fb) := by
  intro s m u m' h ρ σ H Q r0 rs q
  obtain ⟨k, m1, e1, h⟩ := bd_inv h
  refine hc s m k m1 e1 ρ σ H _ r0 rs fun ρ1 H1 p1 r1 => ?_
  cases k with
  | true => rw [if_pos rfl]; exact ha s m1 u m' h ρ1 σ H1 Q r1 (rs.mono p1) fun ρ2 v H2 p2 r2 => q ρ2 v H2 (p1.trans p2) r2
  | false => rw [if_neg Bool.false_ne_true]; exact hb s m1 u m' h ρ1 σ H1 Q r1 (rs.mono p1) fun ρ2 v H2 p2 r2 => q ρ2 v H2 (p1.trans p2) r2
theorem se_if (hc : ST CA X c tA gA) (ha : SE CA X a ta fa) (hb : SE CA X b tb fb) : SE CA X (.IfExp c a b pos) (tIf tA ta tb) (xIf gA fa fb) := ⟨pe_ifExp hc.pe ha.pe hb.pe, so_if hc.so ha.so hb.so⟩

/-! ### argument lists, displays -/
variable {es : List Expr} {tr : TA} {fr : XA}
def xNil : XA := fun _ m => some ([], m)
def xCons (fa : XE) (fr : XA) : XA := fun s m => bd (fa s m) fun x m1 => bd (fr s m1) fun xs m2 => some (x :: xs, m2)
theorem so_nil {W : Wd} : SoA W tNil xNil := by
  intro s m u m' h ρ σ H Q r0 rs q
  cases h
  exact q ρ [] H (List.prefix_refl ρ) r0 .nil
theorem so_cons {W : Wd} (ha : SoE W ta fa) (hb : SoA W tr fr) : SoA W (tCons ta tr) (xCons fa fr) := by
  intro s m u m' h ρ σ H Q r0 rs q
  obtain ⟨x, m1, e1, h⟩ := bd_inv h
  obtain ⟨xs, m2, e2, h⟩ := bd_inv h
  refine ha s m x m1 e1 ρ σ H _ r0 rs fun ρ1 v1 H1 p1 r1 rv1 => ?_
  refine hb s m1 xs m2 e2 ρ1 σ H1 _ r1 (rs.mono p1) fun ρ2 vs H2 p2 r2 rv2 => ?_
  cases h
  exact q ρ2 _ H2 (p1.trans p2) r2 (.cons (rv1.mono p2) rv2)
theorem sa_nil : SA CA X [] tNil xNil := ⟨pa_nil, so_nil⟩
theorem sa_cons (ha : SE CA X a ta fa) (hr : SA CA X es tr fr) (hs : starEach (a :: es) X.env = (false, eval a X.env) :: starEach es X.env := by rfl) : SA CA X (a :: es) (tCons ta tr) (xCons fa fr) := ⟨pa_cons ha.pe hr.pe hs, so_cons ha.so hr.so⟩
def few (xs : List U) : Bool := Nat.ble xs.length 1000000
theorem few_line {ρ : List Addr} {xs : List U} {vs : List V} (r : RVs ρ xs vs) (h : few xs = true) : vs.length ≤ 1000000 := by
  rw [← Paired.length r]
  exact Nat.le_of_ble_eq_true h
theorem line_of {n : Nat} (h : n ≤ 1000000) : n < sizeLine := by rw [sizeLine_eq]; omega
def xTup (fr : XA) : XE := fun s m => bd (fr s m) fun xs m1 => cond (few xs) (alloc m1 (.tup xs)) none
def xLst (fr : XA) : XE := fun s m => bd (fr s m) fun xs m1 => cond (few xs) (alloc m1 (.lst xs)) none
theorem cond_inv {α : Type} {b : Bool} {o : Option α} {x : α} (h : cond b o none = some x) : b = true ∧ o = some x := by
  cases b with
  | true => exact ⟨rfl, h⟩
  | false => cases h
theorem so_tup {W : Wd} (ha : SoA W tr fr) : SoE W (tTup tr) (xTup fr) := by
  intro s m u m' h ρ σ H Q r0 rs q
  obtain ⟨xs, m1, e1, h⟩ := bd_inv h
  obtain ⟨hl, h⟩ := cond_inv h
  refine ha s m xs m1 e1 ρ σ H _ r0 rs fun ρ1 vs H1 p1 r1 rv1 => ⟨Nat.le_of_lt (line_of (few_line rv1 hl)), fun p hp => ?_⟩
  exact alloc_end r1 h hp (new_tup rv1) fun ρ2 v H2 p2 r2 rv2 => q ρ2 v H2 (p1.trans p2) r2 rv2
theorem so_lst {W : Wd} (ha : SoA W tr fr) : SoE W (tLst tr) (xLst fr) := by
  intro s m u m' h ρ σ H Q r0 rs q
  obtain ⟨xs, m1, e1, h⟩ := bd_inv h
  obtain ⟨hl, h⟩ := cond_inv h
  refine ha s m xs m1 e1 ρ σ H _ r0 rs fun ρ1 vs H1 p1 r1 rv1 => ⟨Nat.le_of_lt (line_of (few_line rv1 hl)), fun p hp => ?_⟩
  exact alloc_end r1 h hp (new_lst rv1) fun ρ2 v H2 p2 r2 rv2 => q ρ2 v H2 (p1.trans p2) r2 rv2
theorem se_tup {k} (h : SA CA X es tr fr) : SE CA X (.Tuple es k pos) (tTup tr) (xTup fr) := ⟨pe_tup h.pe, so_tup h.so⟩
theorem se_lst (h : SA CA X es tr fr) : SE CA X (.List es pos) (tLst tr) (xLst fr) := ⟨pe_lst h.pe, so_lst h.so⟩
end
end Sh
end

noncomputable section
namespace Sh
open PySem PySem.Spec PyProof.Rows L2

/-! ### operators over ints -/
def gI (C : Int → Int → Bool) (f : Int → Int → U) (x y : U) (m : Mem) : Option (U × Mem) :=
  match x with
  | .int i => match y with
    | .int j => cond (C i j) (some (f i j, m)) none
    | _ => none
  | _ => none
theorem gI_inv {C : Int → Int → Bool} {f : Int → Int → U} {x y : U} {m m' : Mem} {u : U} (h : gI C f x y m = some (u, m')) : ∃ i j, x = .int i ∧ y = .int j ∧ C i j = true ∧ u = f i j ∧ m' = m := by
  cases x with
  | int i =>
    cases y with
    | int j =>
      obtain ⟨e, h⟩ := cond_inv (show cond (C i j) (some (f i j, m)) none = some (u, m') from h)
      cases h
      exact ⟨i, j, rfl, rfl, e, rfl, rfl⟩
    | _ => cases h
  | _ => cases h
def yes2 : Int → Int → Bool := fun _ _ => true
theorem so_I {W : Wd} {C : Int → Int → Bool} {C' : Int → Int → Prop} {f : Int → Int → U} {g : Int → Int → V} (hC : ∀ i j, C i j = true → C' i j) (h : ∀ ρ i j, RV ρ (f i j) (g i j)) : SoR W (rI C' g) (gI C f) := by
  intro x y m u m' e ρ vx vy H Q r rx ry q
  obtain ⟨i, j, rfl, rfl, c, rfl, rfl⟩ := gI_inv e
  exact ⟨i, j, rx, ry, hC i j c, q ρ _ H (List.prefix_refl ρ) r (h ρ i j)⟩
theorem so_I0 {W : Wd} {f : Int → Int → U} {g : Int → Int → V} (h : ∀ ρ i j, RV ρ (f i j) (g i j)) : SoR W (rI0 g) (gI yes2 f) := by
  intro x y m u m' e ρ vx vy H Q r rx ry q
  obtain ⟨i, j, rfl, rfl, c, rfl, rfl⟩ := gI_inv e
  exact ⟨i, j, rx, ry, q ρ _ H (List.prefix_refl ρ) r (h ρ i j)⟩
def ltB (i j : Int) : Bool := decide (i < j)
def cMul (i j : Int) : Bool := (decide (-(2 ^ 64) < i) && decide (i < 2 ^ 64)) || (decide (-(2 ^ 64) < j) && decide (j < 2 ^ 64))
def cPow (i j : Int) : Bool := decide (0 ≤ j) && decide (j ≤ 1000000) && decide (i.natAbs < 2 ^ 64)
theorem cMul_ok {i j : Int} (h : cMul i j = true) : CMul i j := by
  unfold cMul at h
  rcases Bool.or_eq_true_iff.mp h with h | h
  · obtain ⟨a, b⟩ := Bool.and_eq_true_iff.mp h
    exact .inl ⟨of_decide_eq_true a, of_decide_eq_true b⟩
  · obtain ⟨a, b⟩ := Bool.and_eq_true_iff.mp h
    exact .inr ⟨of_decide_eq_true a, of_decide_eq_true b⟩
theorem cPow_ok {i j : Int} (h : cPow i j = true) : CPow i j := by
  unfold cPow at h
  obtain ⟨h, c⟩ := Bool.and_eq_true_iff.mp h
  obtain ⟨a, b⟩ := Bool.and_eq_true_iff.mp h
  exact ⟨of_decide_eq_true a, of_decide_eq_true b, of_decide_eq_true c⟩
def cDivW (i j : Int) : Bool := decide (0 < j) && decide (j < 2 ^ 200)
theorem cDivW_ok {i j : Int} (h : cDivW i j = true) : CDivW i j := by
  obtain ⟨a, b⟩ := Bool.and_eq_true_iff.mp h
  have a := of_decide_eq_true a
  have b := of_decide_eq_true b
  refine ⟨a, ?_⟩
  have : j.natAbs < 2 ^ 200 := by
    have h2 : (j.natAbs : Int) < ((2 ^ 200 : Nat) : Int) := by
      rw [Int.natAbs_of_nonneg (Int.le_of_lt a)]
      rw [show (((2 ^ 200 : Nat)) : Int) = (2 : Int) ^ 200 by rw [Int.natCast_pow]; rfl]
      exact b
    exact_mod_cast h2
  have h3 : j.natAbs ≠ 0 := by omega
  exact Nat.lt_of_lt_of_le ((Nat.log2_lt h3).mpr this) (by decide)

section
variable {CA : Cd} {X : Cx} {k : Nat}
def iAdd (i j : Int) : U := .int (i + j)
def iSub (i j : Int) : U := .int (i - j)
def iMul (i j : Int) : U := .int (i * j)
def iDiv (i j : Int) : U := .int (i / j)
def iMod (i j : Int) : U := .int (i % j)
def iAnd (i j : Int) : U := .int (Builtin.bitAnd i j)
def iOr (i j : Int) : U := .int (Builtin.bitOr i j)
def iXor (i j : Int) : U := .int (Builtin.bitXor i j)
def iShl (i j : Int) : U := .int (i * 2 ^ j.toNat)
def iShr (i j : Int) : U := .int (i / 2 ^ j.toNat)
def iLt (i j : Int) : U := .bl (decide (i < j))
def iLe (i j : Int) : U := .bl (decide (i ≤ j))
def iGt (i j : Int) : U := .bl (decide (j < i))
def iGe (i j : Int) : U := .bl (decide (j ≤ i))
def gSub := gI yes2 iSub
def gDiv := gI cDivW iDiv
def gMod := gI (fun _ j => decide (0 < j)) iMod
def gAnd := gI yes2 iAnd
def gOr := gI yes2 iOr
def gXor := gI yes2 iXor
def gShl := gI cPow iShl
def gShr := gI (fun _ j => decide (0 ≤ j)) iShr
def gLt := gI yes2 iLt
def gLe := gI yes2 iLe
def gGt := gI yes2 iGt
def gGe := gI yes2 iGe
theorem o_div : SO CA X (binaryOp .FloorDiv) (rI CDivW fun i j => .int (i / j)) gDiv := ⟨op_fdivW, so_I (fun _ _ => cDivW_ok) fun _ _ _ => rfl⟩
/-- an int that is not told -/
def hid : U → Bool
  | .num _ => true | .any => true | _ => false
def isI : U → Bool
  | .num _ => true | .any => true | .int _ => true | _ => false
theorem isI_ok {ρ : List Addr} {x : U} {v : V} (h : isI x = true) (r : RV ρ x v) : ∃ z : Int, v = .int z := by
  cases x with
  | int i => exact ⟨i, r⟩
  | num i => obtain ⟨a, _, _, e⟩ := r; exact ⟨_, e⟩
  | any => exact r
  | _ => cases h
def gAnyI (x y : U) (m : Mem) : Option (U × Mem) := cond (isI x && isI y) (some (.any, m)) none
theorem so_anyI0 {W : Wd} {f : Int → Int → Int} : SoR W (rI0 fun i j => .int (f i j)) gAnyI := by
  intro x y m u m' h ρ vx vy H Q r rx ry q
  obtain ⟨b, h⟩ := cond_inv h
  cases h
  obtain ⟨b1, b2⟩ := Bool.and_eq_true_iff.mp b
  obtain ⟨i, rfl⟩ := isI_ok b1 rx
  obtain ⟨j, rfl⟩ := isI_ok b2 ry
  exact ⟨i, j, rfl, rfl, q ρ _ H (List.prefix_refl ρ) r ⟨_, rfl⟩⟩
def gNumP (x y : U) (m : Mem) : Option (U × Mem) := match x with
  | .num a => match y with
    | .int b => some (.num (a + b), m)
    | _ => none
  | .int b => match y with
    | .num a => some (.num (a + b), m)
    | _ => none
  | _ => none
theorem so_numP {W : Wd} : SoR W (rI0 fun i j => .int (i + j)) gNumP := by
  intro x y m u m' h ρ vx vy H Q r rx ry q
  cases x with
  | num a =>
    cases y with
    | int b =>
      cases h
      obtain ⟨d, ed, ld, rfl⟩ := rx
      cases ry
      exact ⟨_, _, rfl, rfl, q ρ _ H (List.prefix_refl ρ) r ⟨d, ed, ld, show V.int _ = V.int _ from congrArg V.int (by omega)⟩⟩
    | _ => cases h
  | int b =>
    cases y with
    | num a =>
      cases h
      obtain ⟨d, ed, ld, rfl⟩ := ry
      cases rx
      exact ⟨_, _, rfl, rfl, q ρ _ H (List.prefix_refl ρ) r ⟨d, ed, ld, show V.int _ = V.int _ from congrArg V.int (by omega)⟩⟩
    | _ => cases h
  | _ => cases h
def gNumM (x y : U) (m : Mem) : Option (U × Mem) := match x with
  | .num a => match y with
    | .int b => some (.num (a - b), m)
    | _ => none
  | _ => none
theorem so_numM {W : Wd} : SoR W (rI0 fun i j => .int (i - j)) gNumM := by
  intro x y m u m' h ρ vx vy H Q r rx ry q
  cases x with
  | num a =>
    cases y with
    | int b =>
      cases h
      obtain ⟨d, ed, ld, rfl⟩ := rx
      cases ry
      exact ⟨_, _, rfl, rfl, q ρ _ H (List.prefix_refl ρ) r ⟨d, ed, ld, show V.int _ = V.int _ from congrArg V.int (by omega)⟩⟩
    | _ => cases h
  | _ => cases h
def gNumLe (x y : U) (m : Mem) : Option (U × Mem) := match x with
  | .int c => match y with
    | .num k => cond (decide (c ≤ k)) (some (.bl true, m)) none
    | _ => none
  | _ => none
theorem so_numLe {W : Wd} : SoR W (rI0 fun i j => .bl (decide (i ≤ j))) gNumLe := by
  intro x y m u m' h ρ vx vy H Q r rx ry q
  cases x with
  | int c =>
    cases y with
    | num k =>
      obtain ⟨b, h⟩ := cond_inv (show cond (decide (c ≤ k)) (some (U.bl true, m)) none = some (u, m') from h)
      cases h
      have b := of_decide_eq_true b
      obtain ⟨d, ed, ld, rfl⟩ := ry
      cases rx
      exact ⟨_, _, rfl, rfl, q ρ _ H (List.prefix_refl ρ) r (by show V.bl (decide _) = V.bl true; rw [decide_eq_true]; omega)⟩
    | _ => cases h
  | _ => cases h
def gNumLt (x y : U) (m : Mem) : Option (U × Mem) := match x with
  | .num k => match y with
    | .int c => cond (decide (k + 8 < c)) (some (.bl true, m)) none
    | _ => none
  | _ => none
theorem so_numLt {W : Wd} : SoR W (rI0 fun i j => .bl (decide (i < j))) gNumLt := by
  intro x y m u m' h ρ vx vy H Q r rx ry q
  cases x with
  | num k =>
    cases y with
    | int c =>
      obtain ⟨b, h⟩ := cond_inv (show cond (decide (k + 8 < c)) (some (U.bl true, m)) none = some (u, m') from h)
      cases h
      have b := of_decide_eq_true b
      obtain ⟨d, ed, ld, rfl⟩ := rx
      cases ry
      exact ⟨_, _, rfl, rfl, q ρ _ H (List.prefix_refl ρ) r (by show V.bl (decide _) = V.bl true; rw [decide_eq_true]; omega)⟩
    | _ => cases h
  | _ => cases h
theorem SoR.alt {W : Wd} {r : R2} {g g' : U → U → Mem → Option (U × Mem)} (h : SoR W r g) (h' : SoR W r g') : SoR W r (fun x y m => Sh.alt (g x y m) (g' x y m)) := fun x y m u m' e ρ vx vy H Q a b c d => (SoR.or h h' x y m u m' e ρ vx vy H Q a b c d).elim id id
def gModD (x y : U) (m : Mem) : Option (U × Mem) := match x with
  | .dr b => match y with
    | .int j => cond (decide (j = 1)) (some (.int 0, m)) (cond (decide (j = 2)) (some (.int (cond b 1 0), m)) none)
    | _ => none
  | _ => none
theorem so_modD {W : Wd} : SoR W (rI (fun _ j => 0 < j) fun i j => .int (i % j)) gModD := by
  intro x y m u m' h ρ vx vy H Q r rx ry q
  cases x with
  | dr b =>
    cases y with
    | int j =>
      obtain ⟨z, rfl, h0, h1⟩ := rx
      cases ry
      unfold gModD at h
      simp only at h
      by_cases e1 : j = 1
      · rw [decide_eq_true e1, cond_true] at h
        cases h
        subst e1
        exact ⟨z, 1, rfl, rfl, Int.one_pos, q ρ _ H (List.prefix_refl ρ) r (by show V.int (z % 1) = V.int 0; rw [Int.emod_one])⟩
      · rw [decide_eq_false e1, cond_false] at h
        obtain ⟨e2, h⟩ := cond_inv h
        cases h
        have e2 := of_decide_eq_true e2
        subst e2
        exact ⟨z, 2, rfl, rfl, (by omega : (0:Int) < 2), q ρ _ H (List.prefix_refl ρ) r (by show V.int (z % 2) = V.int _; rw [h1]; cases b <;> rfl)⟩
    | _ => cases h
  | _ => cases h
theorem so_anyMod {W : Wd} : SoR W (rI (fun _ j => 0 < j) fun i j => .int (i % j)) (fun x y m => match y with
    | .int j => cond (decide (0 < j) && hid x) (some (.any, m)) none
    | _ => none) := by
  intro x y m u m' h ρ vx vy H Q r rx ry q
  cases y with
  | int j =>
    obtain ⟨b, h⟩ := cond_inv (show cond (decide (0 < j) && hid x) (some (U.any, m)) none = some (u, m') from h)
    cases h
    obtain ⟨b1, b2⟩ := Bool.and_eq_true_iff.mp b
    have hx : isI x = true := by
      cases x <;> first | rfl | cases b2
    obtain ⟨i, rfl⟩ := isI_ok hx rx
    cases ry
    exact ⟨i, j, rfl, rfl, of_decide_eq_true b1, q ρ _ H (List.prefix_refl ρ) r ⟨_, rfl⟩⟩
  | _ => cases h
def gModH (x y : U) (m : Mem) : Option (U × Mem) := match y with
    | .int j => cond (decide (0 < j) && hid x) (some (.any, m)) none
    | _ => none
def gModA : U → U → Mem → Option (U × Mem) := fun x y m => alt (gMod x y m) (alt (gModD x y m) (gModH x y m))
def gSubA : U → U → Mem → Option (U × Mem) := fun x y m => alt (gSub x y m) (alt (gNumM x y m) (gAnyI x y m))
theorem o_sub : SO CA X (binaryOp .Sub) (rI0 fun i j => .int (i - j)) gSubA := ⟨op_sub, SoR.alt (so_I0 (f := iSub) fun _ _ _ => rfl) (SoR.alt so_numM so_anyI0)⟩
def gLeA : U → U → Mem → Option (U × Mem) := fun x y m => alt (gLe x y m) (gNumLe x y m)
def gLtA : U → U → Mem → Option (U × Mem) := fun x y m => alt (gLt x y m) (gNumLt x y m)
theorem o_mod : SO CA X (binaryOp .Mod) (rI (fun _ j => 0 < j) fun i j => .int (i % j)) gModA := ⟨op_mod, SoR.alt (so_I (C := fun _ j => decide (0 < j)) (f := iMod) (fun _ _ h => of_decide_eq_true h) fun _ _ _ => rfl) (SoR.alt so_modD so_anyMod)⟩
def gGeD (x y : U) (m : Mem) : Option (U × Mem) := match x with
  | .dr b => match y with
    | .int j => cond (decide (j = 0)) (some (.bl true, m)) none
    | _ => none
  | _ => none
theorem so_geD {W : Wd} : SoR W (rI0 fun i j => .bl (decide (j ≤ i))) gGeD := by
  intro x y m u m' h ρ vx vy H Q r rx ry q
  cases x with
  | dr b =>
    cases y with
    | int j =>
      obtain ⟨z, rfl, h0, h1⟩ := rx
      cases ry
      obtain ⟨e, h⟩ := cond_inv (show cond (decide (j = 0)) (some (U.bl true, m)) none = some (u, m') from h)
      cases h
      have e := of_decide_eq_true e
      subst e
      exact ⟨z, 0, rfl, rfl, q ρ _ H (List.prefix_refl ρ) r (by show V.bl (decide (0 ≤ z)) = V.bl true; rw [decide_eq_true h0])⟩
    | _ => cases h
  | _ => cases h
def gGeA : U → U → Mem → Option (U × Mem) := fun x y m => alt (gGe x y m) (gGeD x y m)
theorem o_and : SO CA X (binaryOp .BitAnd) (rI0 fun i j => .int (Builtin.bitAnd i j)) gAnd := ⟨op_and, so_I0 fun _ _ _ => rfl⟩
theorem o_or : SO CA X (binaryOp .BitOr) (rI0 fun i j => .int (Builtin.bitOr i j)) gOr := ⟨op_or, so_I0 fun _ _ _ => rfl⟩
theorem o_xor : SO CA X (binaryOp .BitXor) (rI0 fun i j => .int (Builtin.bitXor i j)) gXor := ⟨op_xor, so_I0 fun _ _ _ => rfl⟩
theorem o_shl : SO CA X (binaryOp .LShift) (rI CPow fun i j => .int (i * 2 ^ j.toNat)) gShl := ⟨op_shl, so_I (fun _ _ => cPow_ok) fun _ _ _ => rfl⟩
theorem o_shr : SO CA X (binaryOp .RShift) (rI (fun _ j => 0 ≤ j) fun i j => .int (i / 2 ^ j.toNat)) gShr := ⟨op_shr, so_I (fun _ _ h => of_decide_eq_true h) fun _ _ _ => rfl⟩
theorem o_lt : SO CA X (compareOp .Lt) (rI0 fun i j => .bl (decide (i < j))) gLtA := ⟨op_lt, SoR.alt (so_I0 (f := iLt) fun _ _ _ => rfl) so_numLt⟩
theorem o_le : SO CA X (compareOp .LtE) (rI0 fun i j => .bl (decide (i ≤ j))) gLeA := ⟨op_le, SoR.alt (so_I0 (f := iLe) fun _ _ _ => rfl) so_numLe⟩
theorem o_gt : SO CA X (compareOp .Gt) (rI0 fun i j => .bl (decide (j < i))) gGt := ⟨op_gt, so_I0 fun _ _ _ => rfl⟩
theorem o_ge : SO CA X (compareOp .GtE) (rI0 fun i j => .bl (decide (j ≤ i))) gGeA := ⟨op_ge, SoR.alt (so_I0 (f := iGe) fun _ _ _ => rfl) so_geD⟩

/-! ### + and * of what else there is -/
def gAddS (x y : U) (m : Mem) : Option (U × Mem) := match x with
  | .str i => match y with
    | .str j => cond (Nat.ble (i.length + j.length) 1000000) (some (.str (i ++ j), m)) none
    | _ => none
  | _ => none
def rAddS : R2 := fun x y H Q => ∃ i j, x = .str i ∧ y = .str j ∧ i.length + j.length ≤ sizeLine ∧ Q (.str (i ++ j)) H
theorem o_addS : SO CA X (binaryOp .Add) rAddS gAddS := ⟨op_add_str, by
  intro x y m u m' h ρ vx vy H Q r rx ry q
  cases x with
  | str i =>
    cases y with
    | str j =>
      obtain ⟨e, h⟩ := cond_inv (show cond (Nat.ble (i.length + j.length) 1000000) (some (U.str (i ++ j), m)) none = some (u, m') from h)
      cases h
      exact ⟨i, j, rx, ry, Nat.le_of_lt (line_of (Nat.le_of_ble_eq_true e)), q ρ _ H (List.prefix_refl ρ) r rfl⟩
    | _ => cases h
  | _ => cases h⟩
def gAddL (x y : U) (m : Mem) : Option (U × Mem) := match lstAt m x with
  | some xs => match lstAt m y with
    | some ys => cond (few (xs ++ ys)) (alloc m (.lst (xs ++ ys))) none
    | none => none
  | none => none
theorem o_addL : SO CA X (binaryOp .Add) rCat gAddL := ⟨op_cat, by
  intro x y m u m' h ρ vx vy H Q r rx ry q
  unfold gAddL at h
  cases e1 : lstAt m x with
  | none => simp only [e1] at h; cases h
  | some xs =>
    simp only [e1] at h
    cases e2 : lstAt m y with
    | none => simp only [e2] at h; cases h
    | some ys =>
      simp only [e2] at h
      obtain ⟨hf, h⟩ := cond_inv h
      obtain ⟨n, a, vs, rfl, rfl, _, _, h1, r1⟩ := lstAt_inv r e1 rx
      obtain ⟨n', b, ws, rfl, rfl, _, _, h2, r2⟩ := lstAt_inv r e2 ry
      have rr := Paired.append r1 r2
      refine ⟨a, b, vs, ws, rfl, rfl, h1, h2, ?_, fun p hp => alloc_end r h hp (new_lst rr) q⟩
      have := few_line rr hf
      rw [List.length_append] at this
      exact Nat.le_of_lt (line_of this)⟩
def gAddT (x y : U) (m : Mem) : Option (U × Mem) := match seqT m x with
  | some xs => match seqT m y with
    | some ys => cond (few (xs ++ ys)) (match xs with
      | [] => some (y, m)
      | x' :: xs' => match ys with
        | [] => some (x, m)
        | y' :: ys' => alloc m (.tup (x' :: xs' ++ y' :: ys'))) none
    | none => none
  | none => none
theorem o_addT : SO CA X (binaryOp .Add) (rCatA X.K) gAddT := ⟨op_catA, by
  intro x y m u m' h ρ vx vy H Q r rx ry q
  unfold gAddT at h
  cases e1 : seqT m x with
  | none => simp only [e1] at h; cases h
  | some xs =>
    simp only [e1] at h
    cases e2 : seqT m y with
    | none => simp only [e2] at h; cases h
    | some ys =>
      simp only [e2] at h
      obtain ⟨hf, h⟩ := cond_inv h
      obtain ⟨a, vs, rfl, h1, r1⟩ := seqT_inv r e1 rx
      obtain ⟨b, ws, rfl, h2, r2⟩ := seqT_inv r e2 ry
      have rr := Paired.append r1 r2
      have hl : vs.length + ws.length ≤ sizeLine := by
        have := few_line rr hf
        rw [List.length_append] at this
        exact Nat.le_of_lt (line_of this)
      refine ⟨a, b, vs, ws, rfl, rfl, h1, h2, hl, fun e => ?_, fun n e => ?_, fun n n' p hp => ?_⟩
      · subst e
        cases r1
        cases h
        exact q ρ _ H (List.prefix_refl ρ) r ry
      · subst e
        cases r2
        cases r1 with
        | nil => exact absurd rfl n
        | cons c d =>
          cases h
          exact q ρ _ H (List.prefix_refl ρ) r rx
      · cases r1 with
        | nil => exact absurd rfl n
        | cons c d =>
          cases r2 with
          | nil => exact absurd rfl n'
          | cons c' d' => exact alloc_end r h hp (new_tup rr) q⟩
def gAddI : U → U → Mem → Option (U × Mem) := fun x y m => alt (gI yes2 iAdd x y m) (alt (gNumP x y m) (gAnyI x y m))
theorem so_addI {W : Wd} : SoR W (rI0 fun i j => .int (i + j)) gAddI := SoR.alt (so_I0 (f := iAdd) fun _ _ _ => rfl) (SoR.alt so_numP so_anyI0)
def gAdd : U → U → Mem → Option (U × Mem) := fun x y m => alt (gAddI x y m) (alt (gAddL x y m) (alt (gAddT x y m) (gAddS x y m)))
theorem o_add : SO CA X (binaryOp .Add) (fun x y H Q => rI0 (fun i j => .int (i + j)) x y H Q ∨ (rCat x y H Q ∨ (rCatA X.K x y H Q ∨ rAddS x y H Q))) gAdd :=
  SO.or ⟨op_add, so_addI⟩ (SO.or o_addL (SO.or o_addT o_addS))
def rep (xs : List U) (k : Int) : List U := (List.replicate k.toNat xs).flatten
def gRepL (x y : U) (m : Mem) : Option (U × Mem) := match lstAt m x with
  | some xs => match y with
    | .int k => cond (decide (-(2 ^ 63) ≤ k) && decide (k < 2 ^ 63) && Nat.ble (xs.length * k.toNat) 1000000) (alloc m (.lst (rep xs k))) none
    | _ => none
  | none => none
theorem RVs.rep {ρ : List Addr} {xs : List U} {vs : List V} (r : RVs ρ xs vs) (k : Int) : RVs ρ (rep xs k) (List.replicate k.toNat vs).flatten := by
  unfold Sh.rep
  generalize k.toNat = n
  induction n with
  | zero => exact .nil
  | succ n ih =>
    rw [List.replicate_succ, List.replicate_succ, List.flatten_cons, List.flatten_cons]
    exact Paired.append r ih
theorem o_repL : SO CA X (binaryOp .Mult) rRep gRepL := ⟨op_rep, by
  intro x y m u m' h ρ vx vy H Q r rx ry q
  unfold gRepL at h
  cases e1 : lstAt m x with
  | none => simp only [e1] at h; cases h
  | some xs =>
    simp only [e1] at h
    cases y with
    | int k =>
      obtain ⟨hf, h⟩ := cond_inv h
      obtain ⟨hf, h3⟩ := Bool.and_eq_true_iff.mp hf
      obtain ⟨h1, h2⟩ := Bool.and_eq_true_iff.mp hf
      obtain ⟨n, a, vs, rfl, rfl, _, _, e, r1⟩ := lstAt_inv r e1 rx
      refine ⟨a, k, vs, rfl, ry, e, of_decide_eq_true h1, of_decide_eq_true h2, ?_, fun p hp => alloc_end r h hp (new_lst (r1.rep k)) q⟩
      rw [← Paired.length r1]
      exact Nat.le_of_lt (line_of (Nat.le_of_ble_eq_true h3))
    | _ => cases h⟩
def gRepT (x y : U) (m : Mem) : Option (U × Mem) := match seqT m x with
  | some xs => match xs with
    | [] => none
    | x' :: xs' => match y with
      | .int k => cond (decide (2 ≤ k) && decide (k ≤ 1000) && Nat.ble (xs'.length + 1) 1000) (alloc m (.tup (rep (x' :: xs') k))) none
      | _ => none
  | none => none
theorem o_repT : SO CA X (binaryOp .Mult) (rRepT X.K) gRepT := ⟨op_repT, by
  intro x y m u m' h ρ vx vy H Q r rx ry q
  unfold gRepT at h
  cases e1 : seqT m x with
  | none => simp only [e1] at h; cases h
  | some xs =>
    simp only [e1] at h
    cases xs with
    | nil => cases h
    | cons x' xs' =>
      cases y with
      | int k =>
        obtain ⟨hf, h⟩ := cond_inv h
        obtain ⟨hf, h3⟩ := Bool.and_eq_true_iff.mp hf
        obtain ⟨h1, h2⟩ := Bool.and_eq_true_iff.mp hf
        obtain ⟨a, vs, rfl, e, r1⟩ := seqT_inv r e1 rx
        have hl := Paired.length r1
        rw [List.length_cons] at hl
        refine ⟨a, k, vs, rfl, ry, e, (fun z => by rw [z] at hl; cases hl), of_decide_eq_true h1, of_decide_eq_true h2, ?_, fun p hp => alloc_end r h hp (new_tup (r1.rep k)) q⟩
        rw [← hl]
        exact Nat.le_of_ble_eq_true h3
      | _ => cases h⟩
def gMul : U → U → Mem → Option (U × Mem) := fun x y m => alt (gI cMul iMul x y m) (alt (gRepL x y m) (gRepT x y m))
theorem o_mul : SO CA X (binaryOp .Mult) (fun x y H Q => rI CMul (fun i j => .int (i * j)) x y H Q ∨ (rRep x y H Q ∨ rRepT X.K x y H Q)) gMul :=
  SO.or ⟨op_mul, so_I (fun _ _ => cMul_ok) fun _ _ _ => rfl⟩ (SO.or o_repL o_repT)

/-! ### data -/
def datL (f : U → Option PyData) : List U → Option (List PyData)
  | [] => some []
  | x :: xs => match f x with
    | some d => match datL f xs with
      | some ds => some (d :: ds)
      | none => none
    | none => none
def dat : Nat → Mem → U → Option PyData
  | 0, _, _ => none
  | k + 1, m, u => match u with
    | .non => some .none
    | .bl b => some (.bool b)
    | .int i => some (.int i)
    | .str x => cond (PyData.strOk x) (some (.str x)) none
    | .ref n => match m.get n with
      | some (.lst xs) => (datL (dat k m) xs).map .list
      | some (.frz xs) => (datL (dat k m) xs).map .list
      | some (.tup xs) => (datL (dat k m) xs).map .tuple
      | some (.ktup xs) => (datL (dat k m) xs).map .tuple
      | _ => none
    | _ => none
theorem datL_ok {W : Wd} {ρ : List Addr} {H : Hp} {f : U → Option PyData} {k : Nat} (hf : ∀ u d v, f u = some d → RV ρ u v → Dp W.K H v d ∧ d.canLay0 = true ∧ d.depth ≤ k) : ∀ {xs : List U} {ds : List PyData} {vs : List V}, datL f xs = some ds → RVs ρ xs vs → DpAll W.K H vs ds ∧ PyData.canLayAll0 ds = true ∧ PyData.depthAll ds ≤ k
  | [], ds, _, h, .nil => by cases h; exact ⟨.nil, by simp [PyData.canLayAll0], by simp [PyData.depthAll]⟩
  | x :: xs, ds, _, h, .cons r rr => by
    unfold datL at h
    cases e1 : f x with
    | none => simp only [e1] at h; cases h
    | some d =>
      simp only [e1] at h
      cases e2 : datL f xs with
      | none => simp only [e2] at h; cases h
      | some es =>
        simp only [e2] at h
        cases h
        obtain ⟨a, b, c⟩ := hf x d _ e1 r
        obtain ⟨a', b', c'⟩ := datL_ok hf e2 rr
        exact ⟨.cons a a', by simp [PyData.canLayAll0, b, b'], by simp only [PyData.depthAll]; omega⟩
theorem dat_ok {W : Wd} {ρ : List Addr} {m : Mem} {H : Hp} (r : R W ρ m H) : ∀ (k : Nat) (u : U) (d : PyData) (v : V), dat k m u = some d → RV ρ u v → Dp W.K H v d ∧ d.canLay0 = true ∧ d.depth ≤ k := by
  intro k
  induction k with
  | zero => intro u d v h _; cases h
  | succ k ih =>
    intro u d v h rv
    cases u with
    | non => cases h; cases rv; exact ⟨.non, by simp [PyData.canLay0], by simp [PyData.depth]⟩
    | bl b => cases h; cases rv; exact ⟨.bl b, by simp [PyData.canLay0], by simp [PyData.depth]⟩
    | int i => cases h; cases rv; exact ⟨.int i, by simp [PyData.canLay0], by simp [PyData.depth]⟩
    | dr b => cases h
    | num b => cases h
    | any => cases h
    | str x =>
      obtain ⟨e, h⟩ := cond_inv (show cond (PyData.strOk x) (some (PyData.str x)) none = some d from h)
      cases h; cases rv
      exact ⟨.str x, by simp [PyData.canLay0, e], by simp [PyData.depth]⟩
    | ref n =>
      obtain ⟨a, ha, rfl⟩ := rv
      unfold dat at h
      cases g : m.get n with
      | none => simp only [g] at h; cases h
      | some o =>
        simp only [g] at h
        cases o with
        | lst xs =>
          obtain ⟨ds, e, rfl⟩ := Option.map_eq_some_iff.mp h
          obtain ⟨vs, e', r'⟩ := r.at ha g
          obtain ⟨x1, x2, x3⟩ := datL_ok ih e r'
          exact ⟨.lst (.inl (.inl e')) x1, by simp [PyData.canLay0, x2], by simp only [PyData.depth]; omega⟩
        | frz xs =>
          obtain ⟨ds, e, rfl⟩ := Option.map_eq_some_iff.mp h
          obtain ⟨o, vs, e', r'⟩ := r.at ha g
          obtain ⟨x1, x2, x3⟩ := datL_ok ih e r'
          exact ⟨.lst (.inl (.inr ⟨o, e'⟩)) x1, by simp [PyData.canLay0, x2], by simp only [PyData.depth]; omega⟩
        | tup xs =>
          obtain ⟨ds, e, rfl⟩ := Option.map_eq_some_iff.mp h
          obtain ⟨vs, e', r'⟩ := r.at ha g
          obtain ⟨x1, x2, x3⟩ := datL_ok ih e r'
          exact ⟨.tup (.inl (.inl e')) x1, by simp [PyData.canLay0, x2], by simp only [PyData.depth]; omega⟩
        | ktup xs =>
          obtain ⟨ds, e, rfl⟩ := Option.map_eq_some_iff.mp h
          obtain ⟨vs, e', r'⟩ := r.at ha g
          obtain ⟨x1, x2, x3⟩ := datL_ok ih e r'
          exact ⟨.tup (.inr e') x1, by simp [PyData.canLay0, x2], by simp only [PyData.depth]; omega⟩
        | _ => cases h
theorem dat_shaped {W : Wd} {ρ : List Addr} {m : Mem} {H : Hp} (r : R W ρ m H) {u : U} {d : PyData} {v : V} (h : dat 30 m u = some d) (rv : RV ρ u v) : Dp W.K H v d ∧ SeqAt.shaped d = true := by
  obtain ⟨a, b, c⟩ := dat_ok r 30 u d v h rv
  refine ⟨a, ?_⟩
  show (d.canLay0 && decide (d.depth ≤ 64)) = true
  rw [b, decide_eq_true (by omega)]
  rfl

/-! ### == -/
def gEqS (neg : Bool) (x y : U) (m : Mem) : Option (U × Mem) := match x with
  | .int i => match y with
    | .int j => some (.bl (neg ^^ decide (i = j)), m)
    | _ => none
  | .str i => match y with
    | .str j => some (.bl (neg ^^ sEq i j), m)
    | _ => none
  | .num i => match y with
    | .num j => some (.bl (neg ^^ decide (i = j)), m)
    | _ => none
  | _ => none
def gEqD (neg : Bool) (x y : U) (m : Mem) : Option (U × Mem) := match dat 30 m x with
  | some d => match dat 30 m y with
    | some e => some (.bl (neg ^^ PyData.eqv d e), m)
    | none => none
  | none => none
theorem dInt {i j : Int} : decide (V.int i = V.int j) = decide (i = j) := by
  rw [Bool.eq_iff_iff]; simp
theorem dStr {i j : Str} : decide (V.str i = V.str j) = sEq i j := by
  rw [Bool.eq_iff_iff, sEq_iff]; simp
theorem dNum {ρ : List Addr} {i j : Int} {vx vy : V} (rx : RV ρ (.num i) vx) (ry : RV ρ (.num j) vy) : ∃ p q, vx = .int p ∧ vy = .int q ∧ decide (p = q) = decide (i = j) := by
  obtain ⟨a, ea, _, rfl⟩ := rx
  obtain ⟨b, eb, _, rfl⟩ := ry
  rw [ea] at eb
  cases eb
  exact ⟨_, _, rfl, rfl, by rw [Bool.eq_iff_iff, decide_eq_true_iff, decide_eq_true_iff]; omega⟩
theorem so_eqS {W : Wd} : SoR W rEq (gEqS false) := by
  intro x y m u m' h ρ vx vy H Q r rx ry q
  cases x with
  | int i =>
    cases y with
    | int j => cases h; cases rx; cases ry; exact ⟨rfl, q ρ _ H (List.prefix_refl ρ) r (by show _ = _; rw [dInt, Bool.false_xor])⟩
    | _ => cases h
  | str i =>
    cases y with
    | str j => cases h; cases rx; cases ry; exact ⟨rfl, q ρ _ H (List.prefix_refl ρ) r (by show _ = _; rw [dStr, Bool.false_xor])⟩
    | _ => cases h
  | num i =>
    cases y with
    | num j =>
      cases h
      obtain ⟨p, q2, rfl, rfl, e⟩ := dNum rx ry
      exact ⟨rfl, q ρ _ H (List.prefix_refl ρ) r (by show _ = _; rw [dInt, e, Bool.false_xor])⟩
    | _ => cases h
  | _ => cases h
theorem so_neS {W : Wd} : SoR W rNe (gEqS true) := by
  intro x y m u m' h ρ vx vy H Q r rx ry q
  cases x with
  | int i =>
    cases y with
    | int j => cases h; cases rx; cases ry; exact ⟨rfl, q ρ _ H (List.prefix_refl ρ) r (by show _ = _; rw [dInt, Bool.true_xor])⟩
    | _ => cases h
  | str i =>
    cases y with
    | str j => cases h; cases rx; cases ry; exact ⟨rfl, q ρ _ H (List.prefix_refl ρ) r (by show _ = _; rw [dStr, Bool.true_xor])⟩
    | _ => cases h
  | num i =>
    cases y with
    | num j =>
      cases h
      obtain ⟨p, q2, rfl, rfl, e⟩ := dNum rx ry
      exact ⟨rfl, q ρ _ H (List.prefix_refl ρ) r (by show _ = _; rw [dInt, e, Bool.true_xor])⟩
    | _ => cases h
  | _ => cases h
theorem gEqD_inv {W : Wd} {ρ : List Addr} {m m' : Mem} {H : Hp} {neg : Bool} {x y u : U} {vx vy : V} (r : R W ρ m H) (h : gEqD neg x y m = some (u, m')) (rx : RV ρ x vx) (ry : RV ρ y vy) : ∃ d e, Dp W.K H vx d ∧ Dp W.K H vy e ∧ SeqAt.shaped d = true ∧ SeqAt.shaped e = true ∧ u = .bl (neg ^^ PyData.eqv d e) ∧ m' = m := by
  unfold gEqD at h
  cases e1 : dat 30 m x with
  | none => simp only [e1] at h; cases h
  | some d =>
    simp only [e1] at h
    cases e2 : dat 30 m y with
    | none => simp only [e2] at h; cases h
    | some e =>
      simp only [e2] at h
      cases h
      obtain ⟨a, b⟩ := dat_shaped r e1 rx
      obtain ⟨a', b'⟩ := dat_shaped r e2 ry
      exact ⟨d, e, a, a', b, b', rfl, rfl⟩
theorem u64 (hr : Room k X.A) : X.A.units + 64 < cLine := hr.units
theorem u65 (hr : Room k X.A) : X.A.units + 65 < cLine := by have := hr.un; omega
def gEq : U → U → Mem → Option (U × Mem) := fun x y m => alt (gEqS false x y m) (gEqD false x y m)
def gNe : U → U → Mem → Option (U × Mem) := fun x y m => alt (gEqS true x y m) (gEqD true x y m)
theorem o_eq (hr : Room k X.A) : SO CA X (compareOp .Eq) (fun x y H Q => rEq x y H Q ∨ rEqD X.K x y H Q) gEq :=
  SO.or ⟨op_eq, so_eqS⟩ ⟨op_eqD (u64 hr), fun x y m u m' h ρ vx vy H Q r rx ry q => by
    obtain ⟨d, e, a, a', b, b', rfl, rfl⟩ := gEqD_inv r h rx ry
    exact ⟨d, e, a, a', b, b', q ρ _ H (List.prefix_refl ρ) r (by show _ = _; rw [Bool.false_xor])⟩⟩
theorem o_ne (hr : Room k X.A) : SO CA X (compareOp .NotEq) (fun x y H Q => rNe x y H Q ∨ rNeD X.K x y H Q) gNe :=
  SO.or ⟨op_ne, so_neS⟩ ⟨op_neD (u64 hr), fun x y m u m' h ρ vx vy H Q r rx ry q => by
    obtain ⟨d, e, a, a', b, b', rfl, rfl⟩ := gEqD_inv r h rx ry
    exact ⟨d, e, a, a', b, b', q ρ _ H (List.prefix_refl ρ) r (by show _ = _; rw [Bool.true_xor])⟩⟩
/-! ### is None -/
def gIsN (neg : Bool) (x y : U) (m : Mem) : Option (U × Mem) := match y with
  | .non => match x with
    | .non => some (.bl (!neg), m)
    | _ => some (.bl neg, m)
  | _ => none
theorem gIsN_inv {ρ : List Addr} {neg : Bool} {x y u : U} {m m' : Mem} {vx vy : V} (h : gIsN neg x y m = some (u, m')) (rx : RV ρ x vx) (ry : RV ρ y vy) : vy = .non ∧ u = .bl (neg ^^ decide (vx = .non)) ∧ m' = m := by
  cases y with
  | non =>
    cases x with
    | non => cases h; cases rx; exact ⟨ry, by cases neg <;> rfl, rfl⟩
    | bl _ => cases h; cases rx; exact ⟨ry, by cases neg <;> rfl, rfl⟩
    | int _ => cases h; cases rx; exact ⟨ry, by cases neg <;> rfl, rfl⟩
    | str _ => cases h; cases rx; exact ⟨ry, by cases neg <;> rfl, rfl⟩
    | ref _ => cases h; obtain ⟨a, _, rfl⟩ := rx; exact ⟨ry, by cases neg <;> rfl, rfl⟩
    | dr _ => cases h; obtain ⟨z, rfl, _⟩ := rx; exact ⟨ry, by cases neg <;> rfl, rfl⟩
    | num _ => cases h; obtain ⟨z, _, _, rfl⟩ := rx; exact ⟨ry, by cases neg <;> rfl, rfl⟩
    | any => cases h; obtain ⟨z, rfl⟩ := rx; exact ⟨ry, by cases neg <;> rfl, rfl⟩
  | _ => cases h
theorem o_is : SO CA X (compareOp .Is) (fun x y H Q => y = .non ∧ Q (.bl (decide (x = .non))) H) (gIsN false) := ⟨op_isN, fun x y m u m' h ρ vx vy H Q r rx ry q => by
  obtain ⟨a, rfl, rfl⟩ := gIsN_inv h rx ry
  exact ⟨a, q ρ _ H (List.prefix_refl ρ) r (by show _ = _; rw [Bool.false_xor])⟩⟩
theorem o_isnt : SO CA X (compareOp .IsNot) (fun x y H Q => y = .non ∧ Q (.bl (!decide (x = .non))) H) (gIsN true) := ⟨op_notN, fun x y m u m' h ρ vx vy H Q r rx ry q => by
  obtain ⟨a, rfl, rfl⟩ := gIsN_inv h rx ry
  exact ⟨a, q ρ _ H (List.prefix_refl ρ) r (by show _ = _; rw [Bool.true_xor])⟩⟩
end
end Sh
end

noncomputable section
namespace Sh
open PySem PySem.Spec PyProof.Rows L2

/-! ### dicts -/
/-- keys that are held against each other quickly -/
class KE (κ : Type) where
  eq : κ → κ → Bool
  spec : ∀ a b, eq a b = true ↔ a = b
theorem KE.dec {κ : Type} [KE κ] (a b : κ) [Decidable (a = b)] : KE.eq a b = decide (a = b) := by
  rw [Bool.eq_iff_iff, KE.spec, decide_eq_true_iff]
def kEq : Key → Key → Bool
  | .inl i, .inl j => decide (i = j)
  | .inr x, .inr y => sEq x y
  | _, _ => false
instance : KE Key where
  eq := kEq
  spec := fun a b => by
    cases a with
    | inl i => cases b with
      | inl j => simp [kEq]
      | inr y => simp [kEq]
    | inr x => cases b with
      | inl j => simp [kEq]
      | inr y => simp [kEq, sEq_iff]
def ksEq (l : List Key) : List Key → Bool := List.rec (motive := fun _ => List Key → Bool) (fun m => List.rec (motive := fun _ => Bool) true (fun _ _ _ => false) m) (fun a _ ih m => List.rec (motive := fun _ => Bool) false (fun b q _ => Bool.rec false (ih q) (kEq a b)) m) l
theorem ksEq_iff : ∀ l m : List Key, ksEq l m = true ↔ l = m
  | [], [] => Iff.intro (fun _ => rfl) (fun _ => rfl)
  | [], _ :: _ => Iff.intro (fun h => (Bool.false_ne_true h).elim) (fun h => by simp at h)
  | _ :: _, [] => Iff.intro (fun h => (Bool.false_ne_true h).elim) (fun h => by simp at h)
  | a :: l, b :: m => by
    show (Bool.rec false (ksEq l m) (kEq a b) : Bool) = true ↔ _
    cases e : kEq a b with
    | true =>
      have := (KE.spec a b).mp e
      subst this
      show ksEq l m = true ↔ _
      rw [ksEq_iff l m]
      simp
    | false =>
      refine Iff.intro (fun h => (Bool.false_ne_true h).elim) (fun h => ?_)
      have h1 := (List.cons.inj h).1
      have h2 := (KE.spec a b).mpr h1
      rw [show KE.eq a b = kEq a b from rfl, e] at h2
      cases h2
instance : KE (List Key) where
  eq := ksEq
  spec := ksEq_iff
def valU {κ : Type} [KE κ] (kvs : List (κ × U)) (k : κ) : Option U := List.rec (motive := fun _ => Option U) none (fun kv _ ih => Bool.rec ih (some kv.2) (KE.eq kv.1 k)) kvs
def hasU {κ : Type} [KE κ] (kvs : List (κ × U)) (k : κ) : Bool := List.rec (motive := fun _ => Bool) false (fun kv _ ih => Bool.rec ih true (KE.eq kv.1 k)) kvs
def mapU {κ : Type} [KE κ] (kvs : List (κ × U)) (k : κ) (v : U) : List (κ × U) := List.rec (motive := fun _ => List (κ × U)) [] (fun kv _ ih => (Bool.rec kv (kv.1, v) (KE.eq kv.1 k)) :: ih) kvs
def putU {κ : Type} [KE κ] (kvs : List (κ × U)) (k : κ) (v : U) : List (κ × U) := Bool.rec (kvs ++ [(k, v)]) (mapU kvs k v) (hasU kvs k)
def lookS (fs : List (Str × U)) (k : Str) : Option U := List.rec (motive := fun _ => Option U) none (fun kv _ ih => Bool.rec ih (some kv.2) (sEq kv.1 k)) fs
def putFU (f : Str) (v : U) : List (Str × U) → List (Str × U)
  | [] => [(f, v)]
  | (g, x) :: r => cond (sEq g f) ((g, v) :: r) ((g, x) :: putFU f v r)
def keyU : U → Option Key
  | .int i => some (.inl i)
  | .str x => some (.inr x)
  | _ => none
def keysU : List U → Option (List Key)
  | [] => some []
  | x :: r => match keyU x with
    | some k => match keysU r with
      | some ks => some (k :: ks)
      | none => none
    | none => none
/-- a tuple as a key -/
def tupKey (m : Mem) : U → Option (List Key)
  | .ref n => match m.get n with
    | some (.tup xs) => keysU xs
    | _ => none
  | _ => none
theorem keyU_ok {ρ : List Addr} {u : U} {k : Key} {v : V} (h : keyU u = some k) (r : RV ρ u v) : v = kV k := by
  cases u with
  | int i => cases h; exact r
  | str i => cases h; exact r
  | _ => cases h
theorem keysU_ok {ρ : List Addr} : ∀ {us : List U} {ks : List Key} {vs : List V}, keysU us = some ks → RVs ρ us vs → vs = ks.map kV
  | [], _, _, h, .nil => by cases h; rfl
  | u :: us, ks, _, h, .cons r rr => by
    unfold keysU at h
    cases e1 : keyU u with
    | none => simp only [e1] at h; cases h
    | some k =>
      simp only [e1] at h
      cases e2 : keysU us with
      | none => simp only [e2] at h; cases h
      | some ks =>
        simp only [e2] at h
        cases h
        rw [keyU_ok e1 r, keysU_ok e2 rr]
        rfl
theorem tupKey_ok {W : Wd} {ρ : List Addr} {m : Mem} {H : Hp} {u : U} {k : List Key} {v : V} (r : R W ρ m H) (h : tupKey m u = some k) (rv : RV ρ u v) : ∃ b, v = .ref b ∧ H b = some (.tup (k.map kV)) := by
  cases u with
  | ref n =>
    obtain ⟨a, ha, rfl⟩ := rv
    unfold tupKey at h
    cases g : m.get n with
    | none => simp only [g] at h; cases h
    | some o =>
      simp only [g] at h
      cases o with
      | tup xs =>
        obtain ⟨vs, e, r'⟩ := r.at ha g
        rw [keysU_ok h r'] at e
        exact ⟨a, rfl, e⟩
      | _ => cases h
  | _ => cases h
theorem val_ok {κ : Type} [KE κ] [DecidableEq κ] {ρ : List Addr} : ∀ {kvs : List (κ × U)} {ws : List (κ × V)}, RKV ρ kvs ws → ∀ k, RSo ρ (valU kvs k) (valV ws k)
  | _, _, .nil, k => trivial
  | p :: kvs, q :: ws, .cons r rr, k => by
    have ih := val_ok rr k
    show RSo ρ (Bool.rec (valU kvs k) (some p.2) (KE.eq p.1 k)) _
    unfold valV at ih ⊢
    rw [List.find?_cons, KE.dec, r.1]
    cases decide (q.1 = k) with
    | true => exact r.2
    | false => exact ih
theorem lookup_ok {ρ : List Addr} : ∀ {fs : List (Str × U)} {ws : List (Str × V)}, RKV ρ fs ws → ∀ k, RSo ρ (lookS fs k) (ws.lookup k)
  | _, _, .nil, k => trivial
  | p :: fs, q :: ws, .cons r rr, k => by
    have ih := lookup_ok rr k
    obtain ⟨p1, p2⟩ := p
    obtain ⟨q1, q2⟩ := q
    obtain ⟨e, r⟩ := r
    cases (show p1 = q1 from e)
    show RSo ρ (Bool.rec (lookS fs k) (some p2) (sEq p1 k)) _
    rw [List.lookup_cons, show (k == p1) = sEq p1 k by rw [Bool.eq_iff_iff, sEq_iff, beq_iff_eq]; exact ⟨fun h => h.symm, fun h => h.symm⟩]
    cases sEq p1 k with
    | true => exact r
    | false => exact ih
theorem any_ok {κ : Type} [KE κ] [DecidableEq κ] {ρ : List Addr} {k : κ} : ∀ {kvs : List (κ × U)} {ws : List (κ × V)}, RKV ρ kvs ws → hasU kvs k = (ws.any fun kv => decide (kv.1 = k))
  | _, _, .nil => rfl
  | p :: kvs, q :: ws, .cons r rr => by
    show (Bool.rec (hasU kvs k) true (KE.eq p.1 k) : Bool) = _
    rw [List.any_cons, KE.dec, r.1, any_ok rr]
    cases decide (q.1 = k) <;> rfl
theorem map_ok {κ : Type} [KE κ] [DecidableEq κ] {ρ : List Addr} {k : κ} {u : U} {v : V} (rv : RV ρ u v) : ∀ {kvs : List (κ × U)} {ws : List (κ × V)}, RKV ρ kvs ws → RKV ρ (mapU kvs k u) (ws.map fun kv => if kv.1 = k then (kv.1, v) else kv)
  | _, _, .nil => .nil
  | p :: kvs, q :: ws, .cons r rr => by
    show RKV ρ ((Bool.rec p (p.1, u) (KE.eq p.1 k)) :: mapU kvs k u) _
    rw [List.map_cons]
    refine .cons ?_ (map_ok rv rr)
    rw [KE.dec, r.1]
    by_cases h : q.1 = k
    · rw [if_pos h, decide_eq_true h]
      exact ⟨rfl, rv⟩
    · rw [if_neg h, decide_eq_false h]
      exact r
theorem putU_ok {κ : Type} [KE κ] [DecidableEq κ] {ρ : List Addr} {k : κ} {u : U} {v : V} (rv : RV ρ u v) {kvs : List (κ × U)} {ws : List (κ × V)} (r : RKV ρ kvs ws) : RKV ρ (putU kvs k u) (putK ws k v) := by
  unfold putU putK
  rw [any_ok r]
  cases (ws.any fun kv => decide (kv.1 = k)) with
  | true => rw [if_pos rfl]; exact map_ok rv r
  | false => rw [if_neg Bool.false_ne_true]; exact Paired.append r (.cons ⟨rfl, rv⟩ .nil)
theorem putFU_ok {ρ : List Addr} {k : Str} {u : U} {v : V} (rv : RV ρ u v) : ∀ {kvs : List (Str × U)} {ws : List (Str × V)}, RKV ρ kvs ws → RKV ρ (putFU k u kvs) (putF k v ws)
  | _, _, .nil => .cons ⟨rfl, rv⟩ .nil
  | p :: _, q :: _, .cons r rr => by
    obtain ⟨p1, p2⟩ := p
    obtain ⟨q1, q2⟩ := q
    obtain ⟨e, r⟩ := r
    cases (show p1 = q1 from e)
    unfold putFU putF
    rw [sEq_dec]
    by_cases h : p1 = k
    · rw [if_pos h, decide_eq_true h]
      exact .cons ⟨rfl, rv⟩ rr
    · rw [if_neg h, decide_eq_false h]
      exact .cons ⟨rfl, r⟩ (putFU_ok rv rr)
/-- what a dict holds -/
def dget (m : Mem) (d y : U) : Option (Option U) := match d with
  | .ref n => match m.get n with
    | some (.dK kvs) => match keyU y with
      | some k => some (valU kvs k)
      | none => none
    | some (.dT kvs) => match tupKey m y with
      | some k => some (valU kvs k)
      | none => none
    | _ => none
  | _ => none
theorem dget_ok {W : Wd} {ρ : List Addr} {m : Mem} {H : Hp} {d y : U} {o : Option U} {vd vy : V} (r : R W ρ m H) (h : dget m d y = some o) (rd : RV ρ d vd) (ry : RV ρ y vy) : ∃ a o', vd = .ref a ∧ DGet H a vy o' ∧ RSo ρ o o' := by
  cases d with
  | ref n =>
    obtain ⟨a, ha, rfl⟩ := rd
    unfold dget at h
    cases g : m.get n with
    | none => simp only [g] at h; cases h
    | some ob =>
      simp only [g] at h
      cases ob with
      | dK kvs =>
        simp only at h
        cases e : keyU y with
        | none => simp only [e] at h; cases h
        | some k =>
          simp only [e] at h
          cases h
          obtain ⟨ws, e', r'⟩ := r.at ha g
          cases keyU_ok e ry
          exact ⟨a, _, rfl, DGet.k e', val_ok r' k⟩
      | dT kvs =>
        simp only at h
        cases e : tupKey m y with
        | none => simp only [e] at h; cases h
        | some k =>
          simp only [e] at h
          cases h
          obtain ⟨ws, e', r'⟩ := r.at ha g
          obtain ⟨b, rfl, eb⟩ := tupKey_ok r e ry
          exact ⟨a, _, rfl, DGet.t e' eb, val_ok r' k⟩
      | _ => cases h
  | _ => cases h
/-- d[y] = v -/
def dput (m : Mem) (d y v : U) : Option Mem := match d with
  | .ref n => match m.get n with
    | some (.dK kvs) => match keyU y with
      | some k => cond (Nat.ble kvs.length 1000000) (some (m.put n (.dK (putU kvs k v)))) none
      | none => none
    | some (.dT kvs) => match tupKey m y with
      | some k => cond (Nat.ble kvs.length 1000000) (some (m.put n (.dT (putU kvs k v)))) none
      | none => none
    | _ => none
  | _ => none
theorem R.putK {W : Wd} {ρ : List Addr} {m : Mem} {H : Hp} {n : Nat} {a : Addr} {xs ys : List (Key × U)} {vs ws : List (Key × V)} (r : R W ρ m H) (hi : ρ[n]? = some a) (g : m.get n = some (.dK xs)) (e : H a = some (.dK vs)) (k : RKV ρ ys ws) : R W ρ (m.put n (.dK ys)) (upd H a (.dK ws)) :=
  r.put hi g rfl e (fun _ q => nomatch q) (fun _ _ q => nomatch q) rfl ⟨ws, upd_same, k⟩
theorem R.putT {W : Wd} {ρ : List Addr} {m : Mem} {H : Hp} {n : Nat} {a : Addr} {xs ys : List (List Key × U)} {vs ws : List (List Key × V)} (r : R W ρ m H) (hi : ρ[n]? = some a) (g : m.get n = some (.dT xs)) (e : H a = some (.dT vs)) (k : RKV ρ ys ws) : R W ρ (m.put n (.dT ys)) (upd H a (.dT ws)) :=
  r.put hi g rfl e (fun _ q => nomatch q) (fun _ _ q => nomatch q) rfl ⟨ws, upd_same, k⟩
theorem RKV.few {κ : Type} {ρ : List Addr} {xs : List (κ × U)} {vs : List (κ × V)} (r : RKV ρ xs vs) (h : Nat.ble xs.length 1000000 = true) : vs.length < sizeLine := by
  rw [← Paired.length r]
  exact line_of (Nat.le_of_ble_eq_true h)
theorem dput_ok {W : Wd} {ρ : List Addr} {m m' : Mem} {H : Hp} {d y v : U} {vd vy vv : V} (r : R W ρ m H) (h : dput m d y v = some m') (rd : RV ρ d vd) (ry : RV ρ y vy) (rv : RV ρ v vv) : ∃ a H', vd = .ref a ∧ DPut H a vy vv H' ∧ R W ρ m' H' := by
  cases d with
  | ref n =>
    obtain ⟨a, ha, rfl⟩ := rd
    unfold dput at h
    cases g : m.get n with
    | none => simp only [g] at h; cases h
    | some ob =>
      simp only [g] at h
      cases ob with
      | dK kvs =>
        simp only at h
        cases e : keyU y with
        | none => simp only [e] at h; cases h
        | some k =>
          simp only [e] at h
          obtain ⟨hf, h⟩ := cond_inv h
          cases h
          obtain ⟨ws, e', r'⟩ := r.at ha g
          cases keyU_ok e ry
          exact ⟨a, _, rfl, DPut.k e' (r'.few hf), r.putK ha g e' (putU_ok rv r')⟩
      | dT kvs =>
        simp only at h
        cases e : tupKey m y with
        | none => simp only [e] at h; cases h
        | some k =>
          simp only [e] at h
          obtain ⟨hf, h⟩ := cond_inv h
          cases h
          obtain ⟨ws, e', r'⟩ := r.at ha g
          obtain ⟨b, rfl, eb⟩ := tupKey_ok r e ry
          exact ⟨a, _, rfl, DPut.t e' eb (r'.few hf), r.putT ha g e' (putU_ok rv r')⟩
      | _ => cases h
  | _ => cases h

/-! ### subscripts -/
def ixU (xs : List U) (i : Int) : Option U := match ixN xs.length i with
  | some j => xs[j]?
  | none => none
theorem ixU_ok {ρ : List Addr} {xs : List U} {vs : List V} {i : Int} {u : U} (r : RVs ρ xs vs) (h : ixU xs i = some u) : ∃ v, atI vs i = some v ∧ RV ρ u v := by
  unfold ixU at h
  cases e : ixN xs.length i with
  | none => simp only [e] at h; cases h
  | some j =>
    simp only [e] at h
    obtain ⟨v, ev, rv⟩ := Paired.get r h
    refine ⟨v, ?_, rv⟩
    unfold atI
    rw [← Paired.length r, e]
    exact ev
section
variable {CA : Cd} {X : Cx} {k : Nat} {a b o i e value : Expr} {pos pos' : Pos} {ta tb : TE} {fa fb fc : XE}
def gIxL (x y : U) (m : Mem) : Option (U × Mem) := match seqL m x with
  | some xs => match y with
    | .int i => match ixU xs i with
      | some u => some (u, m)
      | none => none
    | _ => none
  | none => none
def gIxT (x y : U) (m : Mem) : Option (U × Mem) := match seqT m x with
  | some xs => match y with
    | .int i => match ixU xs i with
      | some u => some (u, m)
      | none => none
    | _ => none
  | none => none
def gIxD (x y : U) (m : Mem) : Option (U × Mem) := match dget m x y with
  | some (some u) => some (u, m)
  | _ => none
theorem i_list : SI CA X (rIxL X.K) gIxL := ⟨ix_list, by
  intro x y m u m' h ρ vx vy H Q r rx ry q
  unfold gIxL at h
  cases e1 : seqL m x with
  | none => simp only [e1] at h; cases h
  | some xs =>
    simp only [e1] at h
    cases y with
    | int i =>
      cases e2 : ixU xs i with
      | none => simp only [e2] at h; cases h
      | some w =>
        simp only [e2] at h
        cases h
        obtain ⟨a, vs, rfl, h1, r1⟩ := seqL_inv r e1 rx
        obtain ⟨v, ev, rv⟩ := ixU_ok r1 e2
        exact ⟨a, vs, i, v, rfl, ry, .inl h1, ev, q ρ v H (List.prefix_refl ρ) r rv⟩
    | _ => cases h⟩
theorem i_tup : SI CA X (rIxT X.K) gIxT := ⟨ix_tup, by
  intro x y m u m' h ρ vx vy H Q r rx ry q
  unfold gIxT at h
  cases e1 : seqT m x with
  | none => simp only [e1] at h; cases h
  | some xs =>
    simp only [e1] at h
    cases y with
    | int i =>
      cases e2 : ixU xs i with
      | none => simp only [e2] at h; cases h
      | some w =>
        simp only [e2] at h
        cases h
        obtain ⟨a, vs, rfl, h1, r1⟩ := seqT_inv r e1 rx
        obtain ⟨v, ev, rv⟩ := ixU_ok r1 e2
        exact ⟨a, vs, i, v, rfl, ry, h1, ev, q ρ v H (List.prefix_refl ρ) r rv⟩
    | _ => cases h⟩
def rIxDD : R2 := fun x y H Q => ∃ a v, x = .ref a ∧ DGet H a y (some v) ∧ Q v H
theorem ix_dict (hu : X.A.units + 1 < cLine) : IxR X rIxDD := by
  intro value slice pins s σ H x y v u Q I rx ry h hs
  obtain ⟨a, z, rfl, g, q⟩ := h
  cases rx
  have hT := dict_typeIs I g
  have h2 : wpAny (model X.prog X.w) X.A (getItem (.ref a) u) (EP X pins σ Q) X.xe s := d_getItem hu I g ry fun w' s3 I3 rw' => ⟨z, H, I3, rw', q⟩
  unfold subscriptTail
  refine wpAny_bind ?_
  rw [getitemInPython_of_ne hT.not_modules]
  refine wpAny_bind (wpAny_specialOf hT PySem.F.slot_dict_getitem.lookup ?_)
  have fin : wpAny (model X.prog X.w) X.A (subscripted slice false (.ref a) u) (fun r s₃ => wpAny (model X.prog X.w) X.A (letTemporaryGo value (.ref a) r >>= fun _ => pure r) (EP X pins σ Q) X.xe s₃) X.xe s := by
    rw [hs]
    exact wpAny_operating (wpAny_mono h2 (fun r s₃ h₃ => wpAny_bind (wpAny_letTemporaryGo (wpAny_pure h₃))) fun _ _ x => x)
  first
    | exact wpAny_pure (wpAny_bind fin)
    | exact wpAny_bind (wpAny_pure (wpAny_bind fin))
    | exact wpAny_bind fin
theorem i_dict (hr : Room k X.A) : SI CA X rIxDD gIxD := ⟨ix_dict (hu_of hr), by
  intro x y m u m' h ρ vx vy H Q r rx ry q
  unfold gIxD at h
  cases e1 : dget m x y with
  | none => simp only [e1] at h; cases h
  | some o =>
    simp only [e1] at h
    cases o with
    | none => cases h
    | some w =>
      cases h
      obtain ⟨a, o', rfl, g, rs⟩ := dget_ok r e1 rx ry
      cases o' with
      | none => exact rs.elim
      | some v => exact ⟨a, v, rfl, g, q ρ v H (List.prefix_refl ρ) r rs⟩⟩
def gIx : U → U → Mem → Option (U × Mem) := fun x y m => alt (gIxL x y m) (alt (gIxT x y m) (gIxD x y m))
theorem i_all (hr : Room k X.A) : SI CA X (fun x y H Q => rIxL X.K x y H Q ∨ (rIxT X.K x y H Q ∨ rIxDD x y H Q)) gIx := SI.or i_list (SI.or i_tup (i_dict hr))
theorem se_ix (hr : Room k X.A) (ha : SE CA X a ta fa) (hb : SE CA X b tb fb) (hs : PlainIx b := by intro _ _; rfl) :
    SE CA X (.Subscript a b pos) (tOp (fun x y H Q => rIxL X.K x y H Q ∨ (rIxT X.K x y H Q ∨ rIxDD x y H Q)) ta tb) (xOp gIx fa fb) := ⟨pe_ix (i_all (CA := CA) hr).pe ha.pe hb.pe hs, so_op (i_all hr).so ha.so hb.so⟩

/-! ### slices -/
abbrev XO := S → Mem → Option (Option Int × Mem)
def SoO (W : Wd) (t : TO) (f : XO) : Prop := ∀ s m o m', f s m = some (o, m') → ∀ ρ σ H Q, R W ρ m H → Rs ρ s σ → (∀ ρ' H', ρ <+: ρ' → R W ρ' m' H' → Q o H') → t σ H Q
structure SOp (CA : Cd) (X : Cx) (e : Option Expr) (t : TO) (f : XO) : Prop where
  pe : PO X e t
  so : SoO (wd CA X) t f
def xPnone : XO := fun _ m => some (none, m)
def xPart (fa : XE) : XO := fun s m => bd (fa s m) fun x m1 => match x with
  | .int i => some (some i, m1)
  | _ => none
theorem sp_none : SOp CA X none tNoPart xPnone := ⟨po_none, by
  intro s m o m' h ρ σ H Q r rs q
  cases h
  exact q ρ H (List.prefix_refl ρ) r⟩
theorem sp_some (h : SE CA X e ta fa) : SOp CA X (some e) (tPart ta) (xPart fa) := ⟨po_some h.pe, by
  intro s m o m' h' ρ σ H Q r rs q
  obtain ⟨x, m1, e1, h'⟩ := bd_inv h'
  refine h.so s m x m1 e1 ρ σ H _ r rs fun ρ1 v1 H1 p1 r1 rv1 => ?_
  cases x with
  | int i => exact ⟨i, rv1, by cases h'; exact q ρ1 H1 p1 r1⟩
  | _ => cases h'⟩
def cutU (xs : List U) (lo hi : Option Int) : List U := (xs.drop (HT.sIx xs.length 0 lo)).take (HT.sIx xs.length xs.length hi - HT.sIx xs.length 0 lo)
theorem cutU_ok {ρ : List Addr} {xs : List U} {vs : List V} (r : RVs ρ xs vs) (lo hi : Option Int) : RVs ρ (cutU xs lo hi) (cutV vs lo hi) := by
  unfold cutU cutV
  rw [← Paired.length r]
  exact Paired.take _ (Paired.drop _ r)
def gSl (x : U) (lo hi : Option Int) (m : Mem) : Option (U × Mem) := match seqL m x with
  | some xs => alloc m (.lst (cutU xs lo hi))
  | none => match seqT m x with
    | some xs => cond (Nat.beq (HT.sIx xs.length 0 lo) 0 && Nat.beq (HT.sIx xs.length xs.length hi) xs.length) (some (x, m)) (alloc m (.tup (cutU xs lo hi)))
    | none => none
def rSl (K : PySem.W.Frag) : V → Option Int → Option Int → Hp → VK → Prop := fun x lo hi H Q => rSlL K x lo hi H Q ∨ rSlA K x lo hi H Q
theorem so_sl {W : Wd} {x : U} {lo hi : Option Int} {m m' : Mem} {u : U} (h : gSl x lo hi m = some (u, m')) {ρ : List Addr} {vx : V} {H : Hp} {Q : VK} (r : R W ρ m H) (rx : RV ρ x vx) (q : ∀ ρ' v H', ρ <+: ρ' → R W ρ' m' H' → RV ρ' u v → Q v H') : rSl W.K vx lo hi H Q := by
  unfold gSl at h
  cases e1 : seqL m x with
  | some xs =>
    simp only [e1] at h
    obtain ⟨a, vs, rfl, h1, r1⟩ := seqL_inv r e1 rx
    exact .inl ⟨a, vs, rfl, .inl h1, fun p hp => alloc_end r h hp (new_lst (cutU_ok r1 lo hi)) q⟩
  | none =>
    simp only [e1] at h
    cases e2 : seqT m x with
    | none => simp only [e2] at h; cases h
    | some xs =>
      simp only [e2] at h
      obtain ⟨a, vs, rfl, h1, r1⟩ := seqT_inv r e2 rx
      have hl := Paired.length r1
      refine .inr ⟨a, vs, rfl, h1, fun c => ?_, fun c p hp => ?_⟩
      · rw [← hl] at c
        rw [c.1, c.2] at h
        have e3 : (Nat.beq 0 0 && Nat.beq xs.length xs.length) = true := by simp
        rw [e3] at h
        cases h
        exact q ρ _ H (List.prefix_refl ρ) r rx
      · rw [← hl] at c
        have e3 : (Nat.beq (HT.sIx xs.length 0 lo) 0 && Nat.beq (HT.sIx xs.length xs.length hi) xs.length) = false := by
          rw [Bool.eq_false_iff]
          intro z
          obtain ⟨z1, z2⟩ := Bool.and_eq_true_iff.mp z
          exact c ⟨Nat.eq_of_beq_eq_true z1, Nat.eq_of_beq_eq_true z2⟩
        rw [e3] at h
        exact alloc_end r h hp (new_tup (cutU_ok r1 lo hi)) q
variable {lo hi : Option Expr} {tl th : TO} {fl fh : XO} {p2 : Pos}
def xSl (fa : XE) (fl fh : XO) : XE := fun s m => bd (fa s m) fun x m1 => bd (fl s m1) fun l m2 => bd (fh s m2) fun u m3 => gSl x l u m3
theorem se_slice (ha : SE CA X a ta fa) (hl : SOp CA X lo tl fl) (hh : SOp CA X hi th fh) : SE CA X (.Subscript a (.Slice lo hi none p2) pos) (tSl (rSl X.K) ta tl th) (xSl fa fl fh) :=
  ⟨pe_slice (SlR.or sl_list sl_tupA) ha.pe hl.pe hh.pe, by
    intro s m u m' h ρ σ H Q r rs q
    obtain ⟨x, m1, e1, h⟩ := bd_inv h
    obtain ⟨l, m2, e2, h⟩ := bd_inv h
    obtain ⟨w, m3, e3, h⟩ := bd_inv h
    refine ha.so s m x m1 e1 ρ σ H _ r rs fun ρ1 v1 H1 p1 r1 rv1 => ?_
    refine hl.so s m1 l m2 e2 ρ1 σ H1 _ r1 (rs.mono p1) fun ρ2 H2 p2 r2 => ?_
    refine hh.so s m2 w m3 e3 ρ2 σ H2 _ r2 (rs.mono (p1.trans p2)) fun ρ3 H3 p3 r3 => ?_
    exact so_sl (W := wd CA X) h r3 (rv1.mono (p2.trans p3)) fun ρ4 v H4 p4 r4 rv4 => q ρ4 v H4 (p1.trans (p2.trans (p3.trans p4))) r4 rv4⟩

/-! ### in -/
def flatU : U → Bool
  | .ref _ => false
  | .dr _ => false
  | .num _ => false
  | .any => false
  | _ => true
def eqU : U → U → Bool
  | .non, .non => true
  | .bl a, .bl b => a == b
  | .bl a, .int b => (if a then 1 else 0) == b
  | .int a, .bl b => a == (if b then 1 else 0)
  | .int a, .int b => a == b
  | .str a, .str b => sEq a b
  | _, _ => false
theorem flat_ok {ρ : List Addr} {u : U} {v : V} (r : RV ρ u v) (h : flatU u = true) : flatV v = true := by
  cases u with
  | ref n => cases h
  | dr b => cases h
  | num b => cases h
  | any => cases h
  | _ => cases r; rfl
theorem flats_ok {ρ : List Addr} : ∀ {us : List U} {vs : List V}, RVs ρ us vs → us.all flatU = true → vs.all flatV = true
  | _, _, .nil, _ => rfl
  | _, _, .cons r rr, h => by
    rw [List.all_cons] at h ⊢
    obtain ⟨a, b⟩ := Bool.and_eq_true_iff.mp h
    rw [flat_ok r a, flats_ok rr b]
    rfl
theorem eqU_ok {ρ : List Addr} {x y : U} {vx vy : V} (rx : RV ρ x vx) (ry : RV ρ y vy) (hx : flatU x = true) (hy : flatU y = true) : eqV vx vy = eqU x y := by
  cases x with
  | ref n => cases hx
  | dr b => cases hx
  | num b => cases hx
  | any => cases hx
  | str a =>
    cases y with
    | ref n => cases hy
    | dr b => cases hy
    | num b => cases hy
    | any => cases hy
    | str b => cases rx; cases ry; show (a == b) = sEq a b; rw [Bool.eq_iff_iff, sEq_iff, beq_iff_eq]
    | _ => cases rx; cases ry; rfl
  | _ =>
    cases y with
    | ref n => cases hy
    | dr b => cases hy
    | num b => cases hy
    | any => cases hy
    | _ => cases rx; cases ry; rfl
def inU (x : U) (xs : List U) : Bool := xs.any fun y => eqU y x
theorem inU_ok {ρ : List Addr} {x : U} {vx : V} (rx : RV ρ x vx) (hx : flatU x = true) : ∀ {us : List U} {vs : List V}, RVs ρ us vs → us.all flatU = true → inV vx vs = inU x us
  | _, _, .nil, _ => rfl
  | _, _, .cons r rr, h => by
    rw [List.all_cons] at h
    obtain ⟨a, b⟩ := Bool.and_eq_true_iff.mp h
    show (eqV _ _ || inV vx _) = (eqU _ _ || inU x _)
    rw [eqU_ok r rx a hx, inU_ok rx hx rr b]
def seqAny (m : Mem) (y : U) : Option (List U) := alt (seqL m y) (seqT m y)
theorem seqAny_inv {W : Wd} {ρ : List Addr} {m : Mem} {H : Hp} {x : U} {xs : List U} {v : V} (r : R W ρ m H) (h : seqAny m x = some xs) (rv : RV ρ x v) : ∃ a vs, v = .ref a ∧ (SqL W.K H a vs ∨ SqT W.K H a vs) ∧ RVs ρ xs vs := by
  unfold seqAny at h
  cases e1 : seqL m x with
  | some ys =>
    rw [e1] at h
    cases (show some ys = some xs from h)
    obtain ⟨a, vs, e, h1, r1⟩ := seqL_inv r e1 rv
    exact ⟨a, vs, e, .inl (.inl h1), r1⟩
  | none =>
    rw [e1] at h
    obtain ⟨a, vs, e, h1, r1⟩ := seqT_inv r h rv
    exact ⟨a, vs, e, .inr h1, r1⟩
def gInF (neg : Bool) (x y : U) (m : Mem) : Option (U × Mem) := match seqAny m y with
  | some xs => cond (flatU x && xs.all flatU) (some (.bl (if neg then !inU x xs else inU x xs), m)) none
  | none => none
theorem so_inF {W : Wd} {neg : Bool} : SoR W (rIn W.K neg) (gInF neg) := by
  intro x y m u m' h ρ vx vy H Q r rx ry q
  unfold gInF at h
  cases e1 : seqAny m y with
  | none => simp only [e1] at h; cases h
  | some xs =>
    simp only [e1] at h
    obtain ⟨hf, h⟩ := cond_inv h
    obtain ⟨h1, h2⟩ := Bool.and_eq_true_iff.mp hf
    cases h
    obtain ⟨a, vs, rfl, hs, r1⟩ := seqAny_inv r e1 ry
    refine ⟨a, vs, rfl, hs, flat_ok rx h1, flats_ok r1 h2, ?_⟩
    rw [inU_ok rx h1 r1 h2]
    exact q ρ _ H (List.prefix_refl ρ) r rfl
/-- x in t, deep -/
def rInT (K : PySem.W.Frag) (neg : Bool) : R2 := fun x y H Q => ∃ d ds, Dp K H x d ∧ (Dp K H y (.tuple ds) ∨ Dp K H y (.list ds)) ∧ SeqAt.shaped d = true ∧ PyData.canLayAll0 ds = true ∧ PyData.depthAll ds ≤ 63 ∧ Q (.bl (neg ^^ ds.any fun z => PyData.eqv z d)) H
theorem op_inT (hr : Room k X.A) : OpR X (compareOp .In) (rInT X.K false) := by
  intro pins s σ H x y v u Q I rx ry h
  obtain ⟨d, ds, hd, he, sd, sl, sdp, q⟩ := h
  rw [Bool.false_xor] at q
  obtain ⟨as, r1⟩ := Dp.reads I d x v hd rx
  have hu : X.A.units + 1 + min (PyData.depthAll ds) d.depth < cLine := by
    have := hr.un
    have h2 : min (PyData.depthAll ds) d.depth ≤ PyData.depthAll ds := Nat.min_le_left _ _
    omega
  rcases he with he | he
  · obtain ⟨bs, r2⟩ := Dp.reads I (.tuple ds) y u he ry
    exact SeqAt.in_tuple_reads r2 r1 sl (SeqAt.canLay_of_shaped sd) hu ⟨.bl _, H, I, rfl, q⟩
  · obtain ⟨bs, r2⟩ := Dp.reads I (.list ds) y u he ry
    exact SeqAt.in_list_reads r2 r1 sl (SeqAt.canLay_of_shaped sd) hu ⟨.bl _, H, I, rfl, q⟩
theorem op_notInT (hr : Room k X.A) : OpR X (compareOp .NotIn) (rInT X.K true) := by
  intro pins s σ H x y v u Q I rx ry h
  obtain ⟨d, ds, hd, he, sd, sl, sdp, q⟩ := h
  rw [Bool.true_xor] at q
  obtain ⟨as, r1⟩ := Dp.reads I d x v hd rx
  have hu : X.A.units + 1 + min (PyData.depthAll ds) d.depth < cLine := by
    have := hr.un
    have h2 : min (PyData.depthAll ds) d.depth ≤ PyData.depthAll ds := Nat.min_le_left _ _
    omega
  rcases he with he | he
  · obtain ⟨bs, r2⟩ := Dp.reads I (.tuple ds) y u he ry
    exact SeqAt.notIn_tuple_reads r2 r1 sl (SeqAt.canLay_of_shaped sd) hu ⟨.bl _, H, I, rfl, q⟩
  · obtain ⟨bs, r2⟩ := Dp.reads I (.list ds) y u he ry
    exact SeqAt.notIn_list_reads r2 r1 sl (SeqAt.canLay_of_shaped sd) hu ⟨.bl _, H, I, rfl, q⟩
def gInT (neg : Bool) (x y : U) (m : Mem) : Option (U × Mem) := match dat 30 m x with
  | some d => match dat 30 m y with
    | some (.tuple ds) => some (.bl (neg ^^ ds.any fun z => PyData.eqv z d), m)
    | some (.list ds) => some (.bl (neg ^^ ds.any fun z => PyData.eqv z d), m)
    | _ => none
  | none => none
theorem so_inT {W : Wd} {neg : Bool} : SoR W (rInT W.K neg) (gInT neg) := by
  intro x y m u m' h ρ vx vy H Q r rx ry q
  unfold gInT at h
  cases e1 : dat 30 m x with
  | none => simp only [e1] at h; cases h
  | some d =>
    simp only [e1] at h
    obtain ⟨a1, a2⟩ := dat_shaped r e1 rx
    cases e2 : dat 30 m y with
    | none => simp only [e2] at h; cases h
    | some e =>
      obtain ⟨b1, b2, b3⟩ := dat_ok r 30 y e vy e2 ry
      simp only [e2] at h
      cases e with
      | tuple ds => 
        cases h
        simp only [PyData.canLay0, PyData.depth] at b2 b3
        exact ⟨d, ds, a1, .inl b1, a2, b2, by omega, q ρ _ H (List.prefix_refl ρ) r rfl⟩
      | list ds =>
        cases h
        simp only [PyData.canLay0, PyData.depth] at b2 b3
        exact ⟨d, ds, a1, .inr b1, a2, b2, by omega, q ρ _ H (List.prefix_refl ρ) r rfl⟩
      | _ => cases h
def rInDic (neg : Bool) : R2 := fun y x H Q => ∃ a o, x = .ref a ∧ DGet H a y o ∧ Q (.bl (neg ^^ o.isSome)) H
theorem op_inDic (hr : Room k X.A) : OpR X (compareOp .In) (rInDic false) := by
  intro pins s σ H x y v u Q I rx ry h
  obtain ⟨a, o, rfl, g, q⟩ := h
  rw [Bool.false_xor] at q
  cases ry
  exact d_in (hu_of hr) I g rx fun s3 I3 => ⟨.bl o.isSome, H, I3, rfl, q⟩
theorem op_notInDic (hr : Room k X.A) : OpR X (compareOp .NotIn) (rInDic true) := by
  intro pins s σ H x y v u Q I rx ry h
  obtain ⟨a, o, rfl, g, q⟩ := h
  rw [Bool.true_xor] at q
  cases ry
  exact d_notIn (hu_of hr) I g rx fun s3 I3 => ⟨.bl (!o.isSome), H, I3, rfl, q⟩
def gInDic (neg : Bool) (x y : U) (m : Mem) : Option (U × Mem) := match dget m y x with
  | some o => some (.bl (neg ^^ o.isSome), m)
  | none => none
theorem RSo.isSome {ρ : List Addr} : ∀ {o : Option U} {o' : Option V}, RSo ρ o o' → o.isSome = o'.isSome
  | some _, some _, _ => rfl
  | none, none, _ => rfl
theorem so_inDic {W : Wd} {neg : Bool} : SoR W (rInDic neg) (gInDic neg) := by
  intro x y m u m' h ρ vx vy H Q r rx ry q
  unfold gInDic at h
  cases e1 : dget m y x with
  | none => simp only [e1] at h; cases h
  | some o =>
    simp only [e1] at h
    cases h
    obtain ⟨a, o', rfl, g, rs⟩ := dget_ok r e1 ry rx
    exact ⟨a, o', rfl, g, q ρ _ H (List.prefix_refl ρ) r (by show _ = _; rw [RSo.isSome rs])⟩
/-- a sign in a text -/
def rInSg (neg : Bool) : R2 := fun x y H Q => ∃ (c : Nat) (z : Str), x = .str ⟨#[c]⟩ ∧ y = .str z ∧ Q (.bl (neg ^^ decide (c ∈ z.cps.toList))) H
def gInSg (neg : Bool) (x y : U) (m : Mem) : Option (U × Mem) := match x with
  | .str a => match y with
    | .str z => match a.cps.toList with
      | [c] => some (.bl (neg ^^ decide (c ∈ z.cps.toList)), m)
      | _ => none
    | _ => none
  | _ => none
theorem so_inSg {W : Wd} {neg : Bool} : SoR W (rInSg neg) (gInSg neg) := by
  intro x y m u m' h ρ vx vy H Q r rx ry q
  cases x with
  | str a =>
    cases y with
    | str z =>
      obtain ⟨⟨l⟩⟩ := a
      match l, h with
      | [c], h =>
        cases h
        exact ⟨c, z, rx, ry, q ρ _ H (List.prefix_refl ρ) r rfl⟩
    | _ => cases h
  | _ => cases h
theorem op_inSg : OpR X (compareOp .In) (rInSg false) := by
  intro pins s σ H x y v u Q I rx ry h
  obtain ⟨c, z, a, b, q⟩ := h
  rw [Bool.false_xor] at q
  exact op_in_sign pins s σ H x y v u Q I rx ry ⟨c, z, a, b, q⟩
theorem op_notInSg : OpR X (compareOp .NotIn) (rInSg true) := by
  intro pins s σ H x y v u Q I rx ry h
  obtain ⟨c, z, a, b, q⟩ := h
  rw [Bool.true_xor] at q
  exact op_notIn_sign pins s σ H x y v u Q I rx ry ⟨c, z, a, b, q⟩
def gIn (neg : Bool) : U → U → Mem → Option (U × Mem) := fun x y m => alt (gInF neg x y m) (alt (gInDic neg x y m) (alt (gInSg neg x y m) (gInT neg x y m)))
theorem o_in (hr : Room k X.A) : SO CA X (compareOp .In) (fun x y H Q => rIn X.K false x y H Q ∨ (rInDic false x y H Q ∨ (rInSg false x y H Q ∨ rInT X.K false x y H Q))) (gIn false) :=
  SO.or ⟨op_in_seq, so_inF⟩ (SO.or ⟨op_inDic hr, so_inDic⟩ (SO.or ⟨op_inSg, so_inSg⟩ ⟨op_inT hr, so_inT⟩))
theorem o_notIn (hr : Room k X.A) : SO CA X (compareOp .NotIn) (fun x y H Q => rIn X.K true x y H Q ∨ (rInDic true x y H Q ∨ (rInSg true x y H Q ∨ rInT X.K true x y H Q))) (gIn true) :=
  SO.or ⟨op_notIn_seq, so_inF⟩ (SO.or ⟨op_notInDic hr, so_inDic⟩ (SO.or ⟨op_notInSg, so_inSg⟩ ⟨op_notInT hr, so_inT⟩))
end
end Sh
end

noncomputable section
namespace Sh
open PySem PySem.Spec PyProof.Rows L2

/-! ### attributes -/
section
variable {CA : Cd} {X : Cx} {k : Nat} {a b o i e value : Expr} {pos pos' apos cpos tpos p : Pos} {ta tb tv : TE} {fa fb fv : XE} {es : List Expr} {tr : TA} {fr : XA}
/-- the attributes of an instance of the c-th class -/
def insAt (m : Mem) (c : Nat) : U → Option (Nat × List (Str × U))
  | .ref n => match m.get n with
    | some (.ins c' fs) => cond (Nat.beq c' c) (some (n, fs)) none
    | _ => none
  | _ => none
theorem insAt_inv {W : Wd} {ρ : List Addr} {m : Mem} {H : Hp} {c n : Nat} {x : U} {fs : List (Str × U)} {v : V} (r : R W ρ m H) (h : insAt m c x = some (n, fs)) (rv : RV ρ x v) :
    ∃ a dx ws, x = .ref n ∧ v = .ref a ∧ ρ[n]? = some a ∧ m.get n = some (.ins c fs) ∧ H a = some (.ins (W.CA c) dx ws) ∧ RKV ρ fs ws := by
  cases x with
  | ref n' =>
    obtain ⟨a, ha, rfl⟩ := rv
    unfold insAt at h
    cases g : m.get n' with
    | none => simp only [g] at h; cases h
    | some ob =>
      simp only [g] at h
      cases ob with
      | ins c' fs' =>
        obtain ⟨e, h2⟩ := cond_inv (show cond (Nat.beq c' c) (some (n', fs')) none = some (n, fs) from h)
        have ec := Nat.eq_of_beq_eq_true e
        clear h
        subst ec
        cases h2
        obtain ⟨dx, ws, e', r'⟩ := r.at ha g
        exact ⟨a, dx, ws, rfl, rfl, ha, g, e', r'⟩
      | _ => cases h
  | _ => cases h
def xFld (c : Nat) (f : Str) (fa : XE) : XE := fun s m => bd (fa s m) fun x m1 => match insAt m1 c x with
  | some (_, fs) => match lookS fs f with
    | some u => some (u, m1)
    | none => none
  | none => none
theorem so_fld {W : Wd} {c : Nat} {f : Str} (hC : Cls W.K (W.CA c)) (hn : NoAttr W.K (W.CA c) f) (ha : SoE W ta fa) : SoE W (tFld W.K ta f) (xFld c f fa) := by
  intro s m u m' h ρ σ H Q r rs q
  obtain ⟨x, m1, e1, h⟩ := bd_inv h
  refine ha s m x m1 e1 ρ σ H _ r rs fun ρ1 v1 H1 p1 r1 rv1 => ?_
  cases e2 : insAt m1 c x with
  | none => simp only [e2] at h; cases h
  | some z =>
    obtain ⟨n, fs⟩ := z
    simp only [e2] at h
    cases e3 : lookS fs f with
    | none => simp only [e3] at h; cases h
    | some w =>
      simp only [e3] at h
      cases h
      obtain ⟨a, dx, ws, rfl, rfl, hi, g, e', r'⟩ := insAt_inv r1 e2 rv1
      have q2 := lookup_ok r' f
      rw [e3] at q2
      cases q3 : ws.lookup f with
      | none => rw [q3] at q2; exact q2.elim
      | some v =>
        rw [q3] at q2
        exact ⟨a, _, dx, ws, v, rfl, e', hC, hn, q3, q ρ1 v H1 p1 r1 q2⟩
theorem se_fld {c : Nat} {f g : Str} (hC : Cls X.K (CA c)) (hn : NoAttr X.K (CA c) f) (ha : SE CA X a ta fa) (hg : f = g := by rfl) (hb : attributeBase a f X.env (eval a X.env) = eval a X.env := by rfl) : SE CA X (.Attribute a f pos) (tFld X.K ta f) (xFld c g fa) := by
  subst hg
  exact ⟨pe_fld ha.pe hb, so_fld (W := wd CA X) hC hn ha.so⟩
/-- o.f = v -/
def setFld (m : Mem) (c : Nat) (f : Str) (x v : U) : Option Mem := match insAt m c x with
  | some (n, fs) => cond (Nat.ble fs.length 100) (some (m.put n (.ins c (putFU f v fs)))) none
  | none => none
theorem setFld_ok {W : Wd} {ρ : List Addr} {m m' : Mem} {H : Hp} {c : Nat} {f : Str} {x u : U} {vx v : V} (r : R W ρ m H) (h : setFld m c f x u = some m') (rx : RV ρ x vx) (rv : RV ρ u v) :
    ∃ a dx ws, vx = .ref a ∧ H a = some (.ins (W.CA c) dx ws) ∧ ws.length < 1000 ∧ R W ρ m' (upd H a (.ins (W.CA c) dx (putF f v ws))) := by
  unfold setFld at h
  cases e2 : insAt m c x with
  | none => simp only [e2] at h; cases h
  | some z =>
    obtain ⟨n, fs⟩ := z
    simp only [e2] at h
    obtain ⟨hf, h⟩ := cond_inv h
    cases h
    obtain ⟨a, dx, ws, rfl, rfl, hi, g, e', r'⟩ := insAt_inv r e2 rx
    refine ⟨a, dx, ws, rfl, e', ?_, r.put hi g rfl e' (fun _ q => nomatch q) (fun _ _ q => nomatch q) rfl ⟨dx, _, upd_same, putFU_ok rv r'⟩⟩
    have := Nat.le_of_ble_eq_true hf
    rw [← Paired.length r']
    omega
def yFld (c : Nat) (f : Str) (fa fv : XE) : XS := fun s m => bd (fv s m) fun v m1 => bd (fa s m1) fun x m2 => match setFld m2 c f x v with
  | some m3 => some (.nx s, m3)
  | none => none
theorem ss_fld {c : Nat} {f g : Str} (hC : Cls X.K (CA c)) (hn : NoAttr X.K (CA c) f) (ha : SE CA X o ta fa) (hv : SE CA X value tv fv) (hg : f = g := by rfl) (hs : swapsWith value (some (.Attribute o f pos')) pos.line X.env = pure false := by rfl) :
    SS CA X (.Assign [.Attribute o f pos'] value pos) (sFld X.K ta tv f) (yFld c g fa fv) := by
  subst hg
  refine ⟨ps_fld ha.pe hv.pe hs, ?_⟩
  intro s m fl m' h ρ σ H D r rs q
  obtain ⟨v, m1, e1, h⟩ := bd_inv h
  obtain ⟨x, m2, e2, h⟩ := bd_inv h
  refine hv.so s m v m1 e1 ρ σ H _ r rs fun ρ1 v1 H1 p1 r1 rv1 => ?_
  refine ha.so s m1 x m2 e2 ρ1 σ H1 _ r1 (rs.mono p1) fun ρ2 v2 H2 p2 r2 rv2 => ?_
  cases e3 : setFld m2 c f x v with
  | none => simp only [e3] at h; cases h
  | some m3 =>
    simp only [e3] at h
    cases h
    obtain ⟨a, dx, ws, rfl, e', hl, r3⟩ := setFld_ok r2 e3 rv2 (rv1.mono p2)
    exact ⟨a, _, dx, ws, rfl, e', hC, hn, hl, q ρ2 σ _ (p1.trans p2) r3 (rs.mono (p1.trans p2))⟩
/-- o.f op= v -/
def yFldAug (c : Nat) (f : Str) (g : U → U → Mem → Option (U × Mem)) (fa fv : XE) : XS := fun s m => bd (fa s m) fun x m1 => match insAt m1 c x with
  | some (_, fs) => match lookS fs f with
    | some old => bd (fv s m1) fun y m2 => bd (g old y m2) fun z m3 => match setFld m3 c f x z with
      | some m4 => some (.nx s, m4)
      | none => none
    | none => none
  | none => none
theorem ss_fldaug {c : Nat} {f f' : Str} {op : Operator} {rd : R2} {g : U → U → Mem → Option (U × Mem)} (hC : Cls X.K (CA c)) (hn : NoAttr X.K (CA c) f) (ho : InOp X op rd) (hr : SoR (wd CA X) rd g) (ha : SE CA X o ta fa) (hv : SE CA X value tv fv) (hg : f = f' := by rfl) :
    SS CA X (.AugAssign (.Attribute o f tpos) op value pos) (sFldAug X.K ta tv rd f) (yFldAug c f' g fa fv) := by
  subst hg
  refine ⟨ps_fldaug ha.pe hv.pe ho, ?_⟩
  intro s m fl m' h ρ σ H D r rs q
  obtain ⟨x, m1, e1, h⟩ := bd_inv h
  refine ha.so s m x m1 e1 ρ σ H _ r rs fun ρ1 v1 H1 p1 r1 rv1 => ?_
  cases e2 : insAt m1 c x with
  | none => simp only [e2] at h; cases h
  | some z =>
    obtain ⟨n, fs⟩ := z
    simp only [e2] at h
    cases e3 : lookS fs f with
    | none => simp only [e3] at h; cases h
    | some w =>
      simp only [e3] at h
      obtain ⟨y, m2, e4, h⟩ := bd_inv h
      obtain ⟨z, m3, e5, h⟩ := bd_inv h
      obtain ⟨a, dx, ws, rfl, rfl, hi, g', e', r'⟩ := insAt_inv r1 e2 rv1
      have q2 := lookup_ok r' f
      rw [e3] at q2
      cases q3 : ws.lookup f with
      | none => rw [q3] at q2; exact q2.elim
      | some v =>
        rw [q3] at q2
        refine ⟨a, _, dx, ws, v, rfl, e', hC, hn, q3, ?_⟩
        refine hv.so s m1 y m2 e4 ρ1 σ H1 _ r1 (rs.mono p1) fun ρ2 v2 H2 p2 r2 rv2 => ?_
        refine hr w y m2 z m3 e5 ρ2 v v2 H2 _ r2 (RV.mono p2 q2) rv2 fun ρ3 v3 H3 p3 r3 rv3 => ?_
        cases e6 : setFld m3 c f (.ref n) z with
        | none => simp only [e6] at h; cases h
        | some m4 =>
          simp only [e6] at h
          cases h
          obtain ⟨a', dx', ws', ea, e'', hl, r4⟩ := setFld_ok r3 e6 (RV.mono (p2.trans p3) rv1) rv3
          cases ea
          exact ⟨dx', ws', e'', hl, q ρ3 σ _ (p1.trans (p2.trans p3)) r4 (rs.mono (p1.trans (p2.trans p3)))⟩

/-! ### calls -/
def spOf (W : Wd) (g : XF) : Sp := fun vs H Q _ => ∃ ρ us m u m', R W ρ m H ∧ RVs ρ us vs ∧ g us m = some (u, m') ∧ ∀ ρ' v H', ρ <+: ρ' → R W ρ' m' H' → RV ρ' u v → Q v H'
end
/-- a def that is called by its name -/
def Cal (P : Program) (w : World) (K : PySem.W.Frag) (CA : Cd) (mg : Str → Option Value) (base : Heap) (x : Str) (k : Nat) (g : XF) (dus : List U) (dvs : List V) : Prop :=
  ∃ f fd ps ds, FnOk P w K mg base CX0 k f fd ps (spOf ⟨K, CA⟩ g) ∧ mg x = some (.ref f) ∧ PySem.W.keepIn K (.ref f) = true ∧ Binds K fd ps ds ∧ Vals dvs ds ∧ ∀ ρ, RVs ρ dus dvs
/-- a method of the c-th class -/
def CalM (P : Program) (w : World) (K : PySem.W.Frag) (CA : Cd) (mg : Str → Option Value) (base : Heap) (c : Nat) (x : Str) (k : Nat) (g : XF) (dus : List U) (dvs : List V) : Prop :=
  ∃ f fd ps ds, FnOk P w K mg base CX0 k f fd ps (spOf ⟨K, CA⟩ g) ∧ Cls K (CA c) ∧ Meth K (CA c) x f ∧ Binds K fd ps ds ∧ Vals dvs ds ∧ ∀ ρ, RVs ρ dus dvs
/-- the c-th class, called by its name -/
def CalI (P : Program) (w : World) (K : PySem.W.Frag) (CA : Cd) (mg : Str → Option Value) (base : Heap) (c : Nat) (x : Str) (k : Nat) (g : XF) (dus : List U) (dvs : List V) : Prop :=
  ∃ f fd ps ds, FnOk P w K mg base CX0 k f fd ps (spOf ⟨K, CA⟩ g) ∧ Mk K (CA c) f ∧ mg x = some (.ref (CA c)) ∧ Binds K fd ps ds ∧ Vals dvs ds ∧ ∀ ρ, RVs ρ dus dvs
section
variable {CA : Cd} {X : Cx} {k j : Nat} {a b o i e value : Expr} {pos pos' apos cpos tpos p : Pos} {ta tb tv : TE} {fa fb fv : XE} {es : List Expr} {tr : TA} {fr : XA}
def xCall (g : XF) (dus : List U) (fr : XA) : XE := fun s m => bd (fr s m) fun us m1 => g (us ++ dus) m1
theorem so_call {W : Wd} {g : XF} {dus : List U} {dvs : List V} (hd : ∀ ρ, RVs ρ dus dvs) (ha : SoA W tr fr) : SoE W (tCall (spOf W g) dvs E0 tr) (xCall g dus fr) := by
  intro s m u m' h ρ σ H Q r rs q
  obtain ⟨us, m1, e1, h⟩ := bd_inv h
  refine ha s m us m1 e1 ρ σ H _ r rs fun ρ1 vs H1 p1 r1 rv1 => ?_
  exact ⟨ρ1, us ++ dus, m1, u, m', r1, Paired.append rv1 (hd ρ1), h, fun ρ2 v H2 p2 r2 rv2 => q ρ2 v H2 (p1.trans p2) r2 rv2⟩
theorem se_call {x : Str} {g : XF} {dus : List U} {dvs : List V} (c : Cal X.prog X.w X.K CA X.mg X.base x k g dus dvs) (hr : Room j X.A) (ha : SA CA X (e :: es) tr fr) (hj : k ≤ j := by decide) (hg : Gl X x := by rfl) (hdb : (x == ("__debug__" : Str)) = false := by decide)
    (he : starEach (e :: es) X.env = (false, eval e X.env) :: starEach es X.env := by rfl) (hpl : (backTo pos (starEach es X.env)).any (·.1) = false := by rfl) : SE CA X (.Call (.Name x p) (e :: es) [] pos) (tCall (spOf (wd CA X) g) dvs E0 tr) (xCall g dus fr) := by
  obtain ⟨f, fd, ps, ds, F, hm, hk, hb, hd, hdu⟩ := c
  exact ⟨pe_call F (hr.mono hj) hg hm hk hb hd pass0 ha.pe hdb he hpl, so_call hdu ha.so⟩
def xMeth (c : Nat) (mn : Str) (g : XF) (dus : List U) (fa : XE) (fr : XA) : XE := fun s m => bd (fa s m) fun x m1 => match insAt m1 c x with
  | some (_, fs) => match lookS fs mn with
    | none => bd (fr s m1) fun us m2 => g (x :: (us ++ dus)) m2
    | some _ => none
  | none => none
theorem so_meth {W : Wd} {c : Nat} {mn : Str} {g : XF} {dus : List U} {dvs : List V} (hd : ∀ ρ, RVs ρ dus dvs) (ha : SoE W ta fa) (hr : SoA W tr fr) : SoE W (tMeth (W.CA c) mn (spOf W g) dvs E0 ta tr) (xMeth c mn g dus fa fr) := by
  intro s m u m' h ρ σ H Q r rs q
  obtain ⟨x, m1, e1, h⟩ := bd_inv h
  refine ha s m x m1 e1 ρ σ H _ r rs fun ρ1 v1 H1 p1 r1 rv1 => ?_
  cases e2 : insAt m1 c x with
  | none => simp only [e2] at h; cases h
  | some z =>
    obtain ⟨n, fs⟩ := z
    simp only [e2] at h
    cases e3 : lookS fs mn with
    | some _ => simp only [e3] at h; cases h
    | none =>
      simp only [e3] at h
      obtain ⟨us, m2, e4, h⟩ := bd_inv h
      obtain ⟨a, dx, ws, rfl, rfl, hi, g', e', r'⟩ := insAt_inv r1 e2 rv1
      have q2 := lookup_ok r' mn
      rw [e3] at q2
      refine ⟨a, dx, ws, rfl, e', ?_, ?_⟩
      · cases q3 : ws.lookup mn with
        | none => rfl
        | some v => rw [q3] at q2; exact q2.elim
      · refine hr s m1 us m2 e4 ρ1 σ H1 _ r1 (rs.mono p1) fun ρ2 vs H2 p2 r2 rv2 => ?_
        exact ⟨ρ2, _, m2, u, m', r2, .cons (RV.mono p2 rv1) (Paired.append rv2 (hd ρ2)), h, fun ρ3 v H3 p3 r3 rv3 => q ρ3 v H3 (p1.trans (p2.trans p3)) r3 rv3⟩
theorem se_meth {c : Nat} {x y : Str} {g : XF} {dus : List U} {dvs : List V} {pl : Sem Bool} (cm : CalM X.prog X.w X.K CA X.mg X.base c x k g dus dvs) (hr : Room j X.A) (ho : SE CA X o ta fa) (ha : SA CA X (e :: es) tr fr) (hj : k ≤ j := by decide) (hx : x = y := by rfl)
    (hst : starEach (e :: es) X.env = (false, eval e X.env) :: starEach es X.env := by rfl) (hpl : (backTo pos (starEach es X.env)).any (·.1) = false := by rfl)
    (ht : eval (.Call (.Attribute o x apos) (e :: es) [] pos) X.env = (do
      let ov ← eval o X.env
      standAt apos.atName
      let (f, first) ← holding [ov] (getMethod ov x pl)
      callWith pos f first (backTo pos (starEach (e :: es) X.env)) (backToKw pos (keywordEach [] X.env))) := by rfl) :
    SE CA X (.Call (.Attribute o x apos) (e :: es) [] pos) (tMeth (CA c) x (spOf (wd CA X) g) dvs E0 ta tr) (xMeth c y g dus fa fr) := by
  subst hx
  obtain ⟨f, fd, ps, ds, F, hC, hm, hb, hd, hdu⟩ := cm
  exact ⟨pe_meth (pl := pl) ho.pe hC hm F (hr.mono hj) hb hd pass0 ha.pe hst hpl ht, so_meth (W := wd CA X) hdu ho.so ha.so⟩
theorem se_meth0 {c : Nat} {x y : Str} {g : XF} {dus : List U} {dvs : List V} {pl : Sem Bool} (cm : CalM X.prog X.w X.K CA X.mg X.base c x k g dus dvs) (hr : Room j X.A) (ho : SE CA X o ta fa) (hj : k ≤ j := by decide) (hx : x = y := by rfl)
    (ht : eval (.Call (.Attribute o x apos) [] [] pos) X.env = (do
      let ov ← eval o X.env
      standAt apos.atName
      let (f, first) ← holding [ov] (getMethod ov x pl)
      callWith pos f first (backTo pos (starEach [] X.env)) (backToKw pos (keywordEach [] X.env))) := by rfl) :
    SE CA X (.Call (.Attribute o x apos) [] [] pos) (tMeth (CA c) x (spOf (wd CA X) g) dvs E0 ta tNil) (xMeth c y g dus fa xNil) := by
  subst hx
  obtain ⟨f, fd, ps, ds, F, hC, hm, hb, hd, hdu⟩ := cm
  exact ⟨pe_meth0 (pl := pl) ho.pe hC hm F (hr.mono hj) hb hd pass0 ht, so_meth (W := wd CA X) hdu ho.so so_nil⟩
def xMake (c : Nat) (g : XF) (dus : List U) (fr : XA) : XE := fun s m => bd (fr s m) fun us m1 => bd (alloc m1 (.ins c [])) fun x m2 => bd (g (x :: (us ++ dus)) m2) fun u m3 => match u with
  | .non => some (x, m3)
  | _ => none
theorem so_make {W : Wd} {c : Nat} {g : XF} {dus : List U} {dvs : List V} (hd : ∀ ρ, RVs ρ dus dvs) (hr : SoA W tr fr) : SoE W (tMake (W.CA c) (spOf W g) dvs E0 tr) (xMake c g dus fr) := by
  intro s m u m' h ρ σ H Q r rs q
  obtain ⟨us, m1, e1, h⟩ := bd_inv h
  obtain ⟨x, m2, e2, h⟩ := bd_inv h
  obtain ⟨w, m3, e3, h⟩ := bd_inv h
  refine hr s m us m1 e1 ρ σ H _ r rs fun ρ1 vs H1 p1 r1 rv1 y dx hy hdx ne => ?_
  obtain ⟨hm, rfl, rfl⟩ := alloc_inv e2
  have r2 : R W ρ1 m1 (upd H1 dx (.own y)) := r1.same fun b z e => by rw [upd_ne (ne_of_none e hdx)]; exact e
  have hy2 : upd H1 dx (.own y) y = none := by rw [upd_ne (Ne.symm ne)]; exact hy
  have r3 : R W (ρ1 ++ [y]) (m1.new (.ins c [])) (upd (upd H1 dx (.own y)) y (.ins (W.CA c) dx [])) := r2.new hy2 hm ⟨dx, [], upd_same, .nil⟩
  have rx : RV (ρ1 ++ [y]) (.ref m1.n) (.ref y) := ⟨y, by rw [← r1.len]; simp, rfl⟩
  refine ⟨ρ1 ++ [y], _, m1.new (.ins c []), w, m3, r3, .cons rx (RVs.mono (pre_snoc ρ1 y) (Paired.append rv1 (hd ρ1))), e3, fun ρ4 v H4 p4 r4 rv4 => ?_⟩
  cases w with
  | non =>
    cases h
    exact ⟨rv4, q ρ4 _ H4 (p1.trans ((pre_snoc ρ1 y).trans p4)) r4 (RV.mono p4 rx)⟩
  | _ => cases h
theorem se_make {c : Nat} {x : Str} {g : XF} {dus : List U} {dvs : List V} (ci : CalI X.prog X.w X.K CA X.mg X.base c x k g dus dvs) (hr : Room j X.A) (ha : SA CA X (e :: es) tr fr) (hj : k + 1 ≤ j := by decide) (hg : Gl X x := by rfl) (hdb : (x == ("__debug__" : Str)) = false := by decide)
    (he : starEach (e :: es) X.env = (false, eval e X.env) :: starEach es X.env := by rfl) (hpl : (backTo pos (starEach es X.env)).any (·.1) = false := by rfl) : SE CA X (.Call (.Name x p) (e :: es) [] pos) (tMake (CA c) (spOf (wd CA X) g) dvs E0 tr) (xMake c g dus fr) := by
  obtain ⟨f, fd, ps, ds, F, M, hm, hb, hd, hdu⟩ := ci
  exact ⟨pe_make M F (hr.mono hj) hg hm hb hd pass0 ha.pe hdb he hpl, so_make (W := wd CA X) hdu ha.so⟩
theorem se_make0 {c : Nat} {x : Str} {g : XF} {dus : List U} {dvs : List V} (ci : CalI X.prog X.w X.K CA X.mg X.base c x k g dus dvs) (hr : Room j X.A) (hj : k + 1 ≤ j := by decide) (hg : Gl X x := by rfl) (hdb : (x == ("__debug__" : Str)) = false := by decide) :
    SE CA X (.Call (.Name x p) [] [] pos) (tMake (CA c) (spOf (wd CA X) g) dvs E0 tNil) (xMake c g dus xNil) := by
  obtain ⟨f, fd, ps, ds, F, M, hm, hb, hd, hdu⟩ := ci
  exact ⟨pe_make0 M F (hr.mono hj) hg hm hb hd pass0 hdb, so_make (W := wd CA X) hdu so_nil⟩

/-! ### built-in functions -/
def xCB (g : XF) (fr : XA) : XE := fun s m => bd (fr s m) g
theorem so_cb {W : Wd} {g : XF} {r : List V → Hp → VK → Prop} (hc : SoC W r g) (ha : SoA W tr fr) : SoE W (tCB r tr) (xCB g fr) := by
  intro s m u m' h ρ σ H Q r0 rs q
  obtain ⟨us, m1, e1, h⟩ := bd_inv h
  refine ha s m us m1 e1 ρ σ H _ r0 rs fun ρ1 vs H1 p1 r1 rv1 => ?_
  exact hc us m1 u m' h ρ1 vs H1 Q r1 rv1 fun ρ2 v H2 p2 r2 rv2 => q ρ2 v H2 (p1.trans p2) r2 rv2
theorem se_cb {x : Str} {id : String} {r : List V → Hp → VK → Prop} {g : XF} (hc : SC CA X (.builtin id) r g) (hm : X.mg x = none) (hv : bootBuiltins x = some (.builtin id)) (ha : SA CA X (e :: es) tr fr) (hg : Gl X x := by rfl) (hn : x ≠ "__name__" := by decide) (hdb : (x == ("__debug__" : Str)) = false := by decide)
    (he : starEach (e :: es) X.env = (false, eval e X.env) :: starEach es X.env := by rfl) (hpl : (backTo pos (starEach es X.env)).any (·.1) = false := by rfl) : SE CA X (.Call (.Name x p) (e :: es) [] pos) (tCB r tr) (xCB g fr) :=
  ⟨pe_callB hc.pe hg hm hv ha.pe hn hdb he hpl, so_cb hc.so ha.so⟩
theorem se_ct {x : Str} {T : String} {r : List V → Hp → VK → Prop} {g : XF} (hc : SC CA X (.type T) r g) (hm : X.mg x = none) (hv : bootBuiltins x = some (.type T)) (ha : SA CA X (e :: es) tr fr) (hg : Gl X x := by rfl) (hn : x ≠ "__name__" := by decide) (hdb : (x == ("__debug__" : Str)) = false := by decide)
    (he : starEach (e :: es) X.env = (false, eval e X.env) :: starEach es X.env := by rfl) (hpl : (backTo pos (starEach es X.env)).any (·.1) = false := by rfl) : SE CA X (.Call (.Name x p) (e :: es) [] pos) (tCB r tr) (xCB g fr) :=
  ⟨pe_callTy hc.pe hg hm hv ha.pe hn hdb he hpl, so_cb hc.so ha.so⟩
/-- a rule of one argument -/
theorem soc1 {W : Wd} {r : List V → Hp → VK → Prop} {g : U → Mem → Option (U × Mem)} (h : ∀ x m u m', g x m = some (u, m') → ∀ ρ vx H Q, R W ρ m H → RV ρ x vx → (∀ ρ' v H', ρ <+: ρ' → R W ρ' m' H' → RV ρ' u v → Q v H') → r [vx] H Q) :
    SoC W r (fun us m => match us with
      | [x] => g x m
      | _ => none) := by
  intro us m u m' e ρ vs H Q r0 rv q
  match us, e, rv with
  | [x], e, .cons rx .nil => exact h x m u m' e ρ _ H Q r0 rx q
def f1 (g : U → Mem → Option (U × Mem)) : XF := fun us m => match us with
  | [x] => g x m
  | _ => none
def gLen (x : U) (m : Mem) : Option (U × Mem) := match x with
  | .str z => cond (Nat.ble z.length 1000000) (some (.int z.length, m)) none
  | x => match seqAny m x with
    | some xs => some (.int xs.length, m)
    | none => match x with
      | .ref n => match m.get n with
        | some (.dK kvs) => some (.int kvs.length, m)
        | some (.dT kvs) => some (.int kvs.length, m)
        | _ => none
      | _ => none
def rLenA (K : PySem.W.Frag) : List V → Hp → VK → Prop := fun xs H Q => (∃ x n, xs = [x] ∧ LenV K x H n ∧ Q (.int n) H) ∨ ((∃ a kvs, xs = [V.ref a] ∧ H a = some (.dK kvs) ∧ Q (.int kvs.length) H) ∨ rLenT xs H Q)
theorem c_len : SC CA X (.builtin "len") (rLenA X.K) (f1 gLen) := ⟨CallR.or call_len (CallR.or call_lenD call_len_dT), soc1 (by
  intro x m u m' h ρ vx H Q r rx q
  unfold gLen at h
  cases x with
  | str z =>
    obtain ⟨e, h⟩ := cond_inv h
    cases h
    exact .inl ⟨_, z.length, rfl, (by rw [rx]; exact ⟨Nat.le_of_lt (line_of (Nat.le_of_ble_eq_true e)), rfl⟩), q ρ _ H (List.prefix_refl ρ) r rfl⟩
  | ref n =>
    simp only at h
    cases e1 : seqAny m (.ref n) with
    | some xs =>
      simp only [e1] at h
      cases h
      obtain ⟨a, vs, rfl, hs, r1⟩ := seqAny_inv r e1 rx
      refine .inl ⟨_, xs.length, rfl, ?_, q ρ _ H (List.prefix_refl ρ) r rfl⟩
      rcases hs with hs | hs
      · exact .inl ⟨vs, hs, Paired.length r1⟩
      · exact .inr ⟨vs, hs, Paired.length r1⟩
    | none =>
      simp only [e1] at h
      obtain ⟨a, ha, rfl⟩ := rx
      cases g : m.get n with
      | none => simp only [g] at h; cases h
      | some ob =>
        simp only [g] at h
        cases ob with
        | dK kvs =>
          cases h
          obtain ⟨ws, e', r'⟩ := r.at ha g
          exact .inr (.inl ⟨a, ws, rfl, e', q ρ _ H (List.prefix_refl ρ) r (by rw [Paired.length r']; rfl)⟩)
        | dT kvs =>
          cases h
          obtain ⟨ws, e', r'⟩ := r.at ha g
          exact .inr (.inr ⟨a, ws, rfl, e', q ρ _ H (List.prefix_refl ρ) r (by rw [Paired.length r']; rfl)⟩)
        | _ => cases h
  | _ => cases h)⟩
def gAbs (x : U) (m : Mem) : Option (U × Mem) := match x with
  | .int i => some (.int (if i < 0 then -i else i), m)
  | _ => none
theorem c_abs : SC CA X (.builtin "abs") (fun xs H Q => ∃ i, xs = [.int i] ∧ Q (.int (if i < 0 then -i else i)) H) (f1 gAbs) := ⟨call_abs, soc1 (by
  intro x m u m' h ρ vx H Q r rx q
  cases x with
  | int i => cases h; cases rx; exact ⟨i, rfl, q ρ _ H (List.prefix_refl ρ) r rfl⟩
  | _ => cases h)⟩
def gInt (x : U) (m : Mem) : Option (U × Mem) := match x with
  | .int i => some (.int i, m)
  | .bl k => some (.int (if k then 1 else 0), m)
  | _ => none
theorem c_int : SC CA X (.type "int") (fun xs H Q => (∃ i, xs = [.int i] ∧ Q (.int i) H) ∨ ∃ k, xs = [.bl k] ∧ Q (.int (if k then 1 else 0)) H) (f1 gInt) := ⟨call_int1, soc1 (by
  intro x m u m' h ρ vx H Q r rx q
  cases x with
  | int i => cases h; cases rx; exact .inl ⟨i, rfl, q ρ _ H (List.prefix_refl ρ) r rfl⟩
  | bl i => cases h; cases rx; exact .inr ⟨i, rfl, q ρ _ H (List.prefix_refl ρ) r rfl⟩
  | _ => cases h)⟩
def intsAt (m : Mem) (x : U) : Option (List Int) := match seqL m x with
  | some xs => ints? xs
  | none => none
theorem intsAt_inv {W : Wd} {ρ : List Addr} {m : Mem} {H : Hp} {x : U} {ns : List Int} {v : V} (r : R W ρ m H) (h : intsAt m x = some ns) (rv : RV ρ x v) : ∃ a, v = .ref a ∧ SqL W.K H a (ns.map V.int) := by
  unfold intsAt at h
  cases e : seqL m x with
  | none => simp only [e] at h; cases h
  | some xs =>
    simp only [e] at h
    obtain ⟨a, vs, rfl, h1, r1⟩ := seqL_inv r e rv
    rw [ints_of h] at r1
    rw [ints_V r1] at h1
    exact ⟨a, rfl, .inl h1⟩
def sumI : List Int → Int
  | [] => 0
  | i :: r => i + sumI r
theorem sumI_eq : ∀ l : List Int, sumI l = l.sum
  | [] => rfl
  | i :: r => by rw [List.sum_cons, ← sumI_eq r]; rfl
def gSum (x : U) (m : Mem) : Option (U × Mem) := match intsAt m x with
  | some ns => some (.int (sumI ns), m)
  | none => none
theorem c_sum (hc : X.calm = true) : SC CA X (.builtin "sum") (rSum X.K) (f1 gSum) := ⟨cr_sum hc, soc1 (by
  intro x m u m' h ρ vx H Q r rx q
  unfold gSum at h
  cases e : intsAt m x with
  | none => simp only [e] at h; cases h
  | some ns =>
    simp only [e] at h
    cases h
    obtain ⟨a, rfl, hs⟩ := intsAt_inv r e rx
    refine ⟨a, ns, rfl, hs, q ρ _ H (List.prefix_refl ρ) r ?_⟩
    show _ = V.int (sumI ns)
    rw [sumI_eq])⟩
def maxI : Int → List Int → Int
  | i, [] => i
  | i, j :: r => maxI (if i < j then j else i) r
theorem maxI_ok : ∀ (l : List Int) (i : Int), (maxI i l = i ∨ maxI i l ∈ l) ∧ i ≤ maxI i l ∧ ∀ y ∈ l, y ≤ maxI i l
  | [], i => ⟨.inl rfl, Int.le_refl i, fun _ h => nomatch h⟩
  | j :: r, i => by
    obtain ⟨a, b, c⟩ := maxI_ok r (if i < j then j else i)
    have e : maxI i (j :: r) = maxI (if i < j then j else i) r := rfl
    rw [e]
    by_cases h : i < j
    · rw [if_pos h] at a b c ⊢
      refine ⟨.inr ?_, by omega, fun y hy => ?_⟩
      · rcases a with a | a
        · rw [a]; exact List.mem_cons_self
        · exact List.mem_cons_of_mem _ a
      · rcases List.mem_cons.mp hy with rfl | hy
        · exact b
        · exact c y hy
    · rw [if_neg h] at a b c ⊢
      refine ⟨?_, b, fun y hy => ?_⟩
      · rcases a with a | a
        · exact .inl a
        · exact .inr (List.mem_cons_of_mem _ a)
      · rcases List.mem_cons.mp hy with rfl | hy
        · omega
        · exact c y hy
def gMax (x : U) (m : Mem) : Option (U × Mem) := match intsAt m x with
  | some (n :: ns) => some (.int (maxI n ns), m)
  | _ => none
theorem c_max (hc : X.calm = true) : SC CA X (.builtin "max") (rMax X.K) (f1 gMax) := ⟨cr_max hc, soc1 (by
  intro x m u m' h ρ vx H Q r rx q
  unfold gMax at h
  cases e : intsAt m x with
  | none => simp only [e] at h; cases h
  | some ns =>
    simp only [e] at h
    cases ns with
    | nil => cases h
    | cons n ns =>
      cases h
      obtain ⟨a, rfl, hs⟩ := intsAt_inv r e rx
      refine ⟨a, n :: ns, rfl, hs, Nat.succ_pos _, fun z hz hy => ?_⟩
      obtain ⟨m1, m2, m3⟩ := maxI_ok ns n
      have hin : maxI n ns ∈ n :: ns := by
        rcases m1 with m1 | m1
        · rw [m1]; exact List.mem_cons_self
        · exact List.mem_cons_of_mem _ m1
      have h1 := hy _ hin
      have h2 : z ≤ maxI n ns := by
        rcases List.mem_cons.mp hz with rfl | hz
        · exact m2
        · exact m3 z hz
      have : z = maxI n ns := by omega
      subst this
      exact q ρ _ H (List.prefix_refl ρ) r rfl)⟩
def blsAt (m : Mem) (x : U) : Option (List Bool) := match seqL m x with
  | some xs => bls? xs
  | none => none
theorem blsAt_inv {W : Wd} {ρ : List Addr} {m : Mem} {H : Hp} {x : U} {ns : List Bool} {v : V} (r : R W ρ m H) (h : blsAt m x = some ns) (rv : RV ρ x v) : ∃ a, v = .ref a ∧ SqL W.K H a (ns.map V.bl) := by
  unfold blsAt at h
  cases e : seqL m x with
  | none => simp only [e] at h; cases h
  | some xs =>
    simp only [e] at h
    obtain ⟨a, vs, rfl, h1, r1⟩ := seqL_inv r e rv
    rw [bls_of h] at r1
    rw [bls_V r1] at h1
    exact ⟨a, rfl, .inl h1⟩
def gAny (x : U) (m : Mem) : Option (U × Mem) := match blsAt m x with
  | some bs => some (.bl (bs.any id), m)
  | none => none
def gAll (x : U) (m : Mem) : Option (U × Mem) := match blsAt m x with
  | some bs => some (.bl (bs.all id), m)
  | none => none
theorem c_any (hc : X.calm = true) : SC CA X (.builtin "any") (rAny X.K) (f1 gAny) := ⟨cr_any hc, soc1 (by
  intro x m u m' h ρ vx H Q r rx q
  unfold gAny at h
  cases e : blsAt m x with
  | none => simp only [e] at h; cases h
  | some ns =>
    simp only [e] at h
    cases h
    obtain ⟨a, rfl, hs⟩ := blsAt_inv r e rx
    exact ⟨a, ns, rfl, hs, q ρ _ H (List.prefix_refl ρ) r rfl⟩)⟩
theorem c_all (hc : X.calm = true) : SC CA X (.builtin "all") (rAll X.K) (f1 gAll) := ⟨cr_all hc, soc1 (by
  intro x m u m' h ρ vx H Q r rx q
  unfold gAll at h
  cases e : blsAt m x with
  | none => simp only [e] at h; cases h
  | some ns =>
    simp only [e] at h
    cases h
    obtain ⟨a, rfl, hs⟩ := blsAt_inv r e rx
    exact ⟨a, ns, rfl, hs, q ρ _ H (List.prefix_refl ρ) r rfl⟩)⟩
def gList (x : U) (m : Mem) : Option (U × Mem) := match seqAny m x with
  | some xs => alloc m (.lst xs)
  | none => none
theorem c_list : SC CA X (.type "list") (fun xs H Q => ∃ p ys, xs = [.ref p] ∧ (SqL X.K H p ys ∨ SqT X.K H p ys) ∧ ∀ l, H l = none → Q (.ref l) (upd H l (.lst ys))) (f1 gList) := ⟨call_list_of, soc1 (by
  intro x m u m' h ρ vx H Q r rx q
  unfold gList at h
  cases e : seqAny m x with
  | none => simp only [e] at h; cases h
  | some xs =>
    simp only [e] at h
    obtain ⟨a, vs, rfl, hs, r1⟩ := seqAny_inv r e rx
    exact ⟨a, vs, rfl, hs, fun l hl => alloc_end r h hl (new_lst r1) q⟩)⟩
def gTuple (x : U) (m : Mem) : Option (U × Mem) := match seqL m x with
  | some xs => alloc m (.tup xs)
  | none => match seqT m x with
    | some _ => some (x, m)
    | none => none
theorem c_tuple : SC CA X (.type "tuple") (fun xs H Q => ∃ p ys, xs = [.ref p] ∧ ((SqL X.K H p ys ∧ ∀ l, H l = none → Q (.ref l) (upd H l (.tup ys))) ∨ (SqT X.K H p ys ∧ Q (.ref p) H))) (f1 gTuple) := ⟨call_tuple_of, soc1 (by
  intro x m u m' h ρ vx H Q r rx q
  unfold gTuple at h
  cases e : seqL m x with
  | some xs =>
    simp only [e] at h
    obtain ⟨a, vs, rfl, hs, r1⟩ := seqL_inv r e rx
    exact ⟨a, vs, rfl, .inl ⟨.inl hs, fun l hl => alloc_end r h hl (new_tup r1) q⟩⟩
  | none =>
    simp only [e] at h
    cases e2 : seqT m x with
    | none => simp only [e2] at h; cases h
    | some xs =>
      simp only [e2] at h
      cases h
      obtain ⟨a, vs, rfl, hs, r1⟩ := seqT_inv r e2 rx
      exact ⟨a, vs, rfl, .inr ⟨hs, q ρ _ H (List.prefix_refl ρ) r rx⟩⟩)⟩

/-! ### isinstance -/
def tyC (m : Mem) : U → Option Nat
  | .non => some 0
  | .bl _ => some 1
  | .int _ => some 2
  | .dr _ => some 2
  | .num _ => some 2
  | .any => some 2
  | .str _ => some 3
  | .ref n => match m.get n with
    | some (.lst _) => some 4
    | some (.frz _) => some 4
    | some (.tup _) => some 5
    | some (.dK _) => some 6
    | some (.dT _) => some 6
    | _ => none
def tyS : Nat → String
  | 0 => "NoneType" | 1 => "bool" | 2 => "int" | 3 => "str" | 4 => "list" | 5 => "tuple" | _ => "dict"
def isC (a t : Nat) : Bool := Nat.beq a t || (Nat.beq a 1 && Nat.beq t 2)
theorem tyC_ok {W : Wd} {ρ : List Addr} {m : Mem} {H : Hp} {x : U} {c : Nat} {v : V} (r : R W ρ m H) (h : tyC m x = some c) (rv : RV ρ x v) : c ≤ 6 ∧ TyX W.K H v (.type (tyS c)) := by
  cases x with
  | non => cases h; cases rv; exact ⟨by decide, .base .non⟩
  | bl b => cases h; cases rv; exact ⟨by decide, .base (.bl b)⟩
  | int b => cases h; cases rv; exact ⟨by decide, .base (.int b)⟩
  | dr b => cases h; obtain ⟨z, rfl, _⟩ := rv; exact ⟨by decide, .base (.int z)⟩
  | num b => cases h; obtain ⟨z, _, _, rfl⟩ := rv; exact ⟨by decide, .base (.int _)⟩
  | any => cases h; obtain ⟨z, rfl⟩ := rv; exact ⟨by decide, .base (.int z)⟩
  | str b => cases h; cases rv; exact ⟨by decide, .base (.str b)⟩
  | ref n =>
    obtain ⟨a, ha, rfl⟩ := rv
    unfold tyC at h
    cases g : m.get n with
    | none => simp only [g] at h; cases h
    | some ob =>
      simp only [g] at h
      cases ob with
      | lst xs => cases h; obtain ⟨vs, e, _⟩ := r.at ha g; exact ⟨by decide, .base (.lst e)⟩
      | frz xs => cases h; obtain ⟨o, vs, e, _⟩ := r.at ha g; exact ⟨by decide, .base (.frz e)⟩
      | tup xs => cases h; obtain ⟨vs, e, _⟩ := r.at ha g; exact ⟨by decide, .base (.tup e)⟩
      | dK xs => cases h; obtain ⟨vs, e, _⟩ := r.at ha g; exact ⟨by decide, .base (.dK e)⟩
      | dT xs => cases h; obtain ⟨vs, e, _⟩ := r.at ha g; exact ⟨by decide, .base (.dT e)⟩
      | _ => cases h
theorem kit_ok (K : PySem.W.Frag) : ∀ a t : Nat, a ≤ 6 → 1 ≤ t → t ≤ 5 → PySem.W.kitOne K (.type (tyS a)) (.type (tyS t)) = some (isC a t)
  | 0, 1, _, _, _ => rfl | 0, 2, _, _, _ => rfl | 0, 3, _, _, _ => rfl | 0, 4, _, _, _ => rfl | 0, 5, _, _, _ => rfl
  | 1, 1, _, _, _ => rfl | 1, 2, _, _, _ => rfl | 1, 3, _, _, _ => rfl | 1, 4, _, _, _ => rfl | 1, 5, _, _, _ => rfl
  | 2, 1, _, _, _ => rfl | 2, 2, _, _, _ => rfl | 2, 3, _, _, _ => rfl | 2, 4, _, _, _ => rfl | 2, 5, _, _, _ => rfl
  | 3, 1, _, _, _ => rfl | 3, 2, _, _, _ => rfl | 3, 3, _, _, _ => rfl | 3, 4, _, _, _ => rfl | 3, 5, _, _, _ => rfl
  | 4, 1, _, _, _ => rfl | 4, 2, _, _, _ => rfl | 4, 3, _, _, _ => rfl | 4, 4, _, _, _ => rfl | 4, 5, _, _, _ => rfl
  | 5, 1, _, _, _ => rfl | 5, 2, _, _, _ => rfl | 5, 3, _, _, _ => rfl | 5, 4, _, _, _ => rfl | 5, 5, _, _, _ => rfl
  | 6, 1, _, _, _ => rfl | 6, 2, _, _, _ => rfl | 6, 3, _, _, _ => rfl | 6, 4, _, _, _ => rfl | 6, 5, _, _, _ => rfl
  | _, 0, _, h, _ => absurd h (by decide)
  | a + 7, _, h, _, _ => absurd h (by omega)
  | _, t + 6, _, _, h => absurd h (by omega)
def xIsi (t : Nat) (fa : XE) : XE := fun s m => bd (fa s m) fun x m1 => match tyC m1 x with
  | some c => some (.bl (isC c t), m1)
  | none => none
theorem se_isi {t : Nat} {T : Str} {q2 : Pos} (ht : 1 ≤ t) (ht5 : t ≤ 5) (hm : X.mg "isinstance" = none) (hmT : X.mg T = none) (hT : bootBuiltins T = some (.type (tyS t))) (ha : SE CA X e ta fa) (hg : Gl X "isinstance" := by rfl) (hgT : Gl X T := by rfl) (hn : T ≠ "__name__" := by decide) (hdb : (T == ("__debug__" : Str)) = false := by decide)
    (he : starEach [e, .Name T q2] X.env = (false, eval e X.env) :: starEach [.Name T q2] X.env := by rfl) (hpl : (backTo pos (starEach [.Name T q2] X.env)).any (·.1) = false := by rfl) (he2 : starEach [.Name T q2] X.env = (false, eval (.Name T q2) X.env) :: starEach [] X.env := by rfl) :
    SE CA X (.Call (.Name "isinstance" p) [e, .Name T q2] [] pos) (tCB (rIsi X.K) (tCons ta (tCons (tC (.ty (tyS t))) tNil))) (xIsi t fa) := by
  refine ⟨pe_callB call_isi hg hm boot_isinstance (pa_cons ha.pe (pa_cons (pe_bltn hgT hmT hT rfl hn hdb) pa_nil he2) he) (by decide) (by decide) he hpl, ?_⟩
  intro s m u m' h ρ σ H Q r rs q
  obtain ⟨x, m1, e1, h⟩ := bd_inv h
  refine ha.so s m x m1 e1 ρ σ H _ r rs fun ρ1 v1 H1 p1 r1 rv1 => ?_
  cases e2 : tyC m1 x with
  | none => simp only [e2] at h; cases h
  | some c =>
    simp only [e2] at h
    cases h
    obtain ⟨hc, hty⟩ := tyC_ok r1 e2 rv1
    exact ⟨v1, _, _, _, _, rfl, .ty _, hty, kit_ok _ c t hc ht ht5, q ρ1 _ H1 p1 r1 rfl⟩
/-- isinstance(x, C), an instance of it -/
def xIsC (c : Nat) (fa : XE) : XE := fun s m => bd (fa s m) fun x m1 => match insAt m1 c x with
  | some _ => some (.bl true, m1)
  | none => none
theorem se_isC {c : Nat} {C : Str} {q2 : Pos} (ic : C8.InsC X.K (CA c)) (hm : X.mg "isinstance" = none) (hmC : X.mg C = some (.ref (CA c))) (ha : SE CA X e ta fa) (hg : Gl X "isinstance" := by rfl) (hgC : Gl X C := by rfl) (hdb : (C == ("__debug__" : Str)) = false := by decide)
    (he : starEach [e, .Name C q2] X.env = (false, eval e X.env) :: starEach [.Name C q2] X.env := by rfl) (hpl : (backTo pos (starEach [.Name C q2] X.env)).any (·.1) = false := by rfl) (he2 : starEach [.Name C q2] X.env = (false, eval (.Name C q2) X.env) :: starEach [] X.env := by rfl) :
    SE CA X (.Call (.Name "isinstance" p) [e, .Name C q2] [] pos) (tCB (fun xs H Q => ∃ a dx fs, xs = [.ref a, .ref (CA c)] ∧ H a = some (.ins (CA c) dx fs) ∧ Q (.bl true) H) (tCons ta (tCons (tC (.ref (CA c))) tNil))) (xIsC c fa) := by
  refine ⟨pe_callB (C8.call_isC ic) hg hm boot_isinstance (pa_cons ha.pe (pa_cons (pe_glob hgC hmC rfl hdb) pa_nil he2) he) (by decide) (by decide) he hpl, ?_⟩
  intro s m u m' h ρ σ H Q r rs q
  obtain ⟨x, m1, e1, h⟩ := bd_inv h
  refine ha.so s m x m1 e1 ρ σ H _ r rs fun ρ1 v1 H1 p1 r1 rv1 => ?_
  cases e2 : insAt m1 c x with
  | none => simp only [e2] at h; cases h
  | some z =>
    obtain ⟨n, fs⟩ := z
    simp only [e2] at h
    cases h
    obtain ⟨a, dx, ws, rfl, rfl, hi, g', e', r'⟩ := insAt_inv r1 e2 rv1
    exact ⟨a, dx, ws, rfl, e', q ρ1 _ H1 p1 r1 rfl⟩
end
end Sh
end

noncomputable section
namespace Sh
open PySem PySem.Spec PyProof.Rows L2

/-! ### methods of lists -/
section
variable {CA : Cd} {X : Cx} {k j : Nat} {a b o i e f value : Expr} {pos pos' apos cpos tpos p : Pos} {ta tb tv td ty tx : TE} {fa fb fv fd fy fx : XE} {es : List Expr} {tr : TA} {fr : XA}
def xLM (g : U → List U → Mem → Option (U × Mem)) (fa : XE) (fr : XA) : XE := fun s m => bd (fa s m) fun x m1 => match seqL m1 x with
  | some _ => bd (fr s m1) fun us m2 => g x us m2
  | none => none
theorem so_lm {W : Wd} {g : U → List U → Mem → Option (U × Mem)} {r : V → List V → Hp → VK → Prop} (hm : SoM W r g) (ha : SoE W ta fa) (hr : SoA W tr fr) : SoE W (tBM W.K "list" r ta tr) (xLM g fa fr) := by
  intro s m u m' h ρ σ H Q r0 rs q
  obtain ⟨x, m1, e1, h⟩ := bd_inv h
  refine ha s m x m1 e1 ρ σ H _ r0 rs fun ρ1 v1 H1 p1 r1 rv1 => ?_
  cases e2 : seqL m1 x with
  | none => simp only [e2] at h; cases h
  | some xs =>
    simp only [e2] at h
    obtain ⟨us, m2, e3, h⟩ := bd_inv h
    obtain ⟨a, vs, rfl, h1, _⟩ := seqL_inv r1 e2 rv1
    refine ⟨.inl ⟨rfl, vs, .inl h1⟩, ?_⟩
    refine hr s m1 us m2 e3 ρ1 σ H1 _ r1 (rs.mono p1) fun ρ2 ws H2 p2 r2 rv2 => ?_
    exact hm x us m2 u m' h ρ2 _ ws H2 Q r2 (RV.mono p2 rv1) rv2 fun ρ3 v H3 p3 r3 rv3 => q ρ3 v H3 (p1.trans (p2.trans p3)) r3 rv3
theorem se_lm {name : Str} {id : String} {g : U → List U → Mem → Option (U × Mem)} {r : V → List V → Hp → VK → Prop} (pa : PlainAttrs "list") (slot : Slot "list" name id) (hty : typeOf (.builtin id) = pure (.type "method_descriptor")) (hm : SM CA X id r g) (ho : SE CA X o ta fa) (ha : SA CA X (e :: es) tr fr)
    (hbase : attributeBase o name X.env (eval o X.env) = eval o X.env := by rfl)
    (hfew : ((backTo cpos (starEach (e :: es) X.env)).all (fun x => !x.1) && (backToKw cpos (keywordEach [] X.env)).all (fun x => x.1.isSome)
      && decide ((e :: es).length + ([] : List Keyword).length + (if ([] : List Keyword).isEmpty then 0 else 1) < 30)) = true := by rfl)
    (hline : (apos.endLine == cpos.line) = true := by rfl) (hs : starEach (e :: es) X.env = (false, eval e X.env) :: starEach es X.env := by rfl) (hplain : (backTo cpos (starEach es X.env)).any (·.1) = false := by rfl) :
    SE CA X (.Call (.Attribute o name apos) (e :: es) [] cpos) (tBM X.K "list" r ta tr) (xLM g fa fr) := ⟨pe_bm pa slot hty hm.pe ho.pe ha.pe hbase hfew hline hs hplain, so_lm (W := wd CA X) hm.so ho.so ha.so⟩
theorem se_lm0 {name : Str} {id : String} {g : U → List U → Mem → Option (U × Mem)} {r : V → List V → Hp → VK → Prop} (pa : PlainAttrs "list") (slot : Slot "list" name id) (hty : typeOf (.builtin id) = pure (.type "method_descriptor")) (hm : SM CA X id r g) (ho : SE CA X o ta fa)
    (hbase : attributeBase o name X.env (eval o X.env) = eval o X.env := by rfl) (hline : (apos.endLine == cpos.line) = true := by rfl) :
    SE CA X (.Call (.Attribute o name apos) [] [] cpos) (tBM0 X.K "list" r ta) (xLM g fa xNil) := ⟨pe_bm0 pa slot hty hm.pe ho.pe hbase hline, so_lm (W := wd CA X) hm.so ho.so so_nil⟩
def gAppend (x : U) (us : List U) (m : Mem) : Option (U × Mem) := match us with
  | [y] => match x with
    | .ref n => match m.get n with
      | some (.lst xs) => cond (few xs) (some (.non, m.put n (.lst (xs ++ [y])))) none
      | _ => none
    | _ => none
  | _ => none
theorem m_append : SM CA X "list.append" rAppend gAppend := ⟨mt_append, by
  intro x us m u m' h ρ vx vs H Q r rx rv q
  match us, h, rv with
  | [y], h, .cons ry .nil =>
    cases x with
    | ref n =>
      obtain ⟨a, ha, rfl⟩ := rx
      simp only [gAppend] at h
      cases g : m.get n with
      | none => simp only [g] at h; cases h
      | some ob =>
        simp only [g] at h
        cases ob with
        | lst xs =>
          obtain ⟨e, h⟩ := cond_inv h
          cases h
          obtain ⟨vs, e', r'⟩ := r.at ha g
          exact ⟨a, vs, _, rfl, rfl, e', line_of (few_line r' e), q ρ _ _ (List.prefix_refl ρ) (r.putLst ha g e' (Paired.append r' (.cons ry .nil))) rfl⟩
        | _ => cases h
    | _ => cases h⟩
def gExtend (x : U) (us : List U) (m : Mem) : Option (U × Mem) := match us with
  | [y] => match x with
    | .ref n => match m.get n with
      | some (.lst xs) => match lstAt m y with
        | some zs => cond (few (xs ++ zs)) (some (.non, m.put n (.lst (xs ++ zs)))) none
        | none => none
      | _ => none
    | _ => none
  | _ => none
theorem m_extend : SM CA X "list.extend" rExtend gExtend := ⟨mt_extend, by
  intro x us m u m' h ρ vx vs H Q r rx rv q
  match us, h, rv with
  | [y], h, .cons ry .nil =>
    cases x with
    | ref n =>
      obtain ⟨a, ha, rfl⟩ := rx
      simp only [gExtend] at h
      cases g : m.get n with
      | none => simp only [g] at h; cases h
      | some ob =>
        simp only [g] at h
        cases ob with
        | lst xs =>
          simp only at h
          cases e2 : lstAt m y with
          | none => simp only [e2] at h; cases h
          | some zs =>
            simp only [e2] at h
            obtain ⟨e, h⟩ := cond_inv h
            cases h
            obtain ⟨vs, e', r'⟩ := r.at ha g
            obtain ⟨n2, b, ws, rfl, rfl, _, _, e3, r3⟩ := lstAt_inv r e2 ry
            have rr := Paired.append r' r3
            have hl := few_line rr e
            rw [List.length_append] at hl
            exact ⟨a, b, vs, ws, rfl, rfl, e', e3, Nat.le_of_lt (line_of hl), q ρ _ _ (List.prefix_refl ρ) (r.putLst ha g e' rr) rfl⟩
        | _ => cases h
    | _ => cases h⟩
def gPop (x : U) (us : List U) (m : Mem) : Option (U × Mem) := match us with
  | [] => match x with
    | .ref n => match m.get n with
      | some (.lst xs) => match xs[xs.length - 1]? with
        | some y => some (y, m.put n (.lst xs.dropLast))
        | none => none
      | _ => none
    | _ => none
  | _ => none
theorem m_pop : SM CA X "list.pop" rPop gPop := ⟨mt_pop, by
  intro x us m u m' h ρ vx vs H Q r rx rv q
  match us, h, rv with
  | [], h, .nil =>
    cases x with
    | ref n =>
      obtain ⟨a, ha, rfl⟩ := rx
      simp only [gPop] at h
      cases g : m.get n with
      | none => simp only [g] at h; cases h
      | some ob =>
        simp only [g] at h
        cases ob with
        | lst xs =>
          simp only at h
          cases e : xs[xs.length - 1]? with
          | none => simp only [e] at h; cases h
          | some y =>
            simp only [e] at h
            cases h
            obtain ⟨vs, e', r'⟩ := r.at ha g
            obtain ⟨v, ev, rv⟩ := Paired.get r' e
            exact ⟨a, vs, v, rfl, rfl, e', by rw [← Paired.length r']; exact ev, q ρ _ _ (List.prefix_refl ρ) (r.putLst ha g e' (Paired.dropLast r')) rv⟩
        | _ => cases h
    | _ => cases h⟩

/-! ### methods of dicts -/
def isDic (m : Mem) : U → Bool
  | .ref n => match m.get n with
    | some (.dK _) => true
    | some (.dT _) => true
    | _ => false
  | _ => false
theorem isDic_ok {W : Wd} {ρ : List Addr} {m : Mem} {H : Hp} {x : U} {v : V} (r : R W ρ m H) (h : isDic m x = true) (rv : RV ρ x v) : ∃ a, v = .ref a ∧ IsD H a := by
  cases x with
  | ref n =>
    obtain ⟨a, ha, rfl⟩ := rv
    unfold isDic at h
    cases g : m.get n with
    | none => simp only [g] at h; cases h
    | some ob =>
      simp only [g] at h
      cases ob with
      | dK kvs => obtain ⟨ws, e, _⟩ := r.at ha g; exact ⟨a, rfl, .inl ⟨ws, .inl e⟩⟩
      | dT kvs => obtain ⟨ws, e, _⟩ := r.at ha g; exact ⟨a, rfl, .inr ⟨ws, .inl e⟩⟩
      | _ => cases h
  | _ => cases h
def xGet2 (fd fy fx : XE) : XE := fun s m => bd (fd s m) fun d m1 => cond (isDic m1 d) (bd (fy s m1) fun y m2 => bd (fx s m2) fun z m3 => match dget m3 d y with
  | some (some u) => some (u, m3)
  | some none => some (z, m3)
  | none => none) none
theorem so_get2 {W : Wd} (hd : SoE W td fd) (hy : SoE W ty fy) (hx : SoE W tx fx) : SoE W (tDGet2 td ty tx) (xGet2 fd fy fx) := by
  intro s m u m' h ρ σ H Q r rs q
  obtain ⟨d, m1, e1, h⟩ := bd_inv h
  obtain ⟨c, h⟩ := cond_inv h
  obtain ⟨y, m2, e2, h⟩ := bd_inv h
  obtain ⟨z, m3, e3, h⟩ := bd_inv h
  refine hd s m d m1 e1 ρ σ H _ r rs fun ρ1 v1 H1 p1 r1 rv1 => ?_
  obtain ⟨a, rfl, hD⟩ := isDic_ok r1 c rv1
  refine ⟨a, rfl, hD, ?_⟩
  refine hy s m1 y m2 e2 ρ1 σ H1 _ r1 (rs.mono p1) fun ρ2 v2 H2 p2 r2 rv2 => ?_
  refine hx s m2 z m3 e3 ρ2 σ H2 _ r2 (rs.mono (p1.trans p2)) fun ρ3 v3 H3 p3 r3 rv3 => ?_
  cases e4 : dget m3 d y with
  | none => simp only [e4] at h; cases h
  | some o =>
    simp only [e4] at h
    obtain ⟨a', o', ea, g, rso⟩ := dget_ok r3 e4 (RV.mono (p2.trans p3) rv1) (RV.mono p3 rv2)
    cases ea
    refine ⟨o', g, ?_⟩
    cases o with
    | none =>
      cases h
      cases o' with
      | none => exact q ρ3 _ H3 (p1.trans (p2.trans p3)) r3 rv3
      | some _ => exact rso.elim
    | some w =>
      cases h
      cases o' with
      | none => exact rso.elim
      | some v => exact q ρ3 _ H3 (p1.trans (p2.trans p3)) r3 rso
theorem se_get2 (hr : Room k X.A) (hd : SE CA X o td fd) (hy : SE CA X e ty fy) (hx : SE CA X f tx fx) (m : M2 X o "get" apos e f cpos := by exact ⟨rfl, rfl, rfl, rfl⟩) : SE CA X (.Call (.Attribute o "get" apos) [e, f] [] cpos) (tDGet2 td ty tx) (xGet2 fd fy fx) :=
  ⟨pe_dget2 (hu_of hr) hd.pe hy.pe hx.pe m, so_get2 hd.so hy.so hx.so⟩
def xGet1 (fd fy : XE) : XE := fun s m => bd (fd s m) fun d m1 => cond (isDic m1 d) (bd (fy s m1) fun y m2 => match dget m2 d y with
  | some (some u) => some (u, m2)
  | some none => some (.non, m2)
  | none => none) none
theorem so_get1 {W : Wd} (hd : SoE W td fd) (hy : SoE W ty fy) : SoE W (tDGet1 td ty) (xGet1 fd fy) := by
  intro s m u m' h ρ σ H Q r rs q
  obtain ⟨d, m1, e1, h⟩ := bd_inv h
  obtain ⟨c, h⟩ := cond_inv h
  obtain ⟨y, m2, e2, h⟩ := bd_inv h
  refine hd s m d m1 e1 ρ σ H _ r rs fun ρ1 v1 H1 p1 r1 rv1 => ?_
  obtain ⟨a, rfl, hD⟩ := isDic_ok r1 c rv1
  refine ⟨a, rfl, hD, ?_⟩
  refine hy s m1 y m2 e2 ρ1 σ H1 _ r1 (rs.mono p1) fun ρ2 v2 H2 p2 r2 rv2 => ?_
  cases e4 : dget m2 d y with
  | none => simp only [e4] at h; cases h
  | some o =>
    simp only [e4] at h
    obtain ⟨a', o', ea, g, rso⟩ := dget_ok r2 e4 (RV.mono p2 rv1) rv2
    cases ea
    refine ⟨o', g, ?_⟩
    cases o with
    | none =>
      cases h
      cases o' with
      | none => exact q ρ2 _ H2 (p1.trans p2) r2 rfl
      | some _ => exact rso.elim
    | some w =>
      cases h
      cases o' with
      | none => exact rso.elim
      | some v => exact q ρ2 _ H2 (p1.trans p2) r2 rso
theorem se_get1 (hr : Room k X.A) (hd : SE CA X o td fd) (hy : SE CA X e ty fy) (m : M1 X o "get" apos e cpos := by exact ⟨rfl, rfl, rfl, rfl⟩) : SE CA X (.Call (.Attribute o "get" apos) [e] [] cpos) (tDGet1 td ty) (xGet1 fd fy) :=
  ⟨pe_dget1 (hu_of hr) hd.pe hy.pe m, so_get1 hd.so hy.so⟩
/-! setdefault, whatever the keys -/
theorem d_setdT {pins : List (Addr × Obj)} {σ : L2.St} {H : Hp} {s : Shared} {a b : Addr} {r : Value} {d : V} {k : List Key} {A : Around} {E : Value → Shared → Prop} {kvs : List (List Key × V)} {Q : Value → Shared → Prop} (hu : A.units + 1 < cLine) (I : L2.Inv X pins σ H s) (e : H a = some (.dT kvs)) (eb : H b = some (.tup (k.map kV))) (rd : RelV d r) (hl : kvs.length < sizeLine)
    (h1 : ∀ v, valV kvs k = some v → ∀ (w' : Value) (s' : Shared), L2.Inv X pins σ H s' → RelV v w' → Q w' s') (h2 : valV kvs k = none → ∀ (w' : Value) (s' : Shared), L2.Inv X pins σ (upd H a (.dT (putK kvs k d))) s' → RelV d w' → Q w' s') :
    wpAny (model X.prog X.w) A (call (.builtin "dict.setdefault") [.ref a, .ref b, r]) Q E s := by
  obtain ⟨z, hd, xs, rel, dd⟩ := dt_of I.hok e
  have hz : xs.length ≤ sizeLine := by rw [← Paired.length rel]; exact z
  have hl2 : (putK kvs k d).length ≤ sizeLine := by have := length_putK kvs k d; omega
  refine PySem.call_setdefault_heap (hsz := hz) (tupleKind_room_in1 hu) (key_of I.hok eb) hd dd (fun p hp => ?_) (fun hn h' dd' hs => ?_)
  · have q := rel.val k
    rw [hp] at q
    cases q0 : valV kvs k with
    | none =>
      rw [q0] at q
      exact (show False from q).elim
    | some v0 =>
      rw [q0] at q
      exact h1 v0 q0 _ _ (I.tok _) q
  · have q := rel.val k
    rw [hn] at q
    cases q0 : valV kvs k with
    | some v0 =>
      rw [q0] at q
      exact (show False from q).elim
    | none =>
      obtain ⟨qo, es, ep, hq, g2, g3, g4, _, g5⟩ := dd'
      refine h2 q0 _ _ (d_write (t' := s.toks + (tupleKind (mixKind X.prog X.w)).draws k) I (by rw [e]; exact True.intro) hs ⟨qo, hq⟩ ⟨hl2, hd, _, (rel.put k eb rd).keeps fun c ys ec => ?_, qo, es, ep, hq, g2, g3, g4, g5⟩) rd
      rw [upd_ne (ne_of ec e (fun z => nomatch z))]
      exact ec
def tSetdA (td ty tx : TE) : TE := fun σ H Q => td σ H fun x H1 => ∃ a, x = .ref a ∧ IsD H1 a ∧ ty σ H1 fun y H2 => tx σ H2 fun z H3 =>
  (∃ (kvs : List (Key × V)) (k : Key), H3 a = some (.dK kvs) ∧ y = kV k ∧ kvs.length < sizeLine ∧ (∀ v, valV kvs k = some v → Q v H3) ∧ (valV kvs k = none → Q z (upd H3 a (.dK (putK kvs k z))))) ∨
  (∃ (kvs : List (List Key × V)) (k : List Key) (b : Addr), H3 a = some (.dT kvs) ∧ y = .ref b ∧ H3 b = some (.tup (k.map kV)) ∧ kvs.length < sizeLine ∧ (∀ v, valV kvs k = some v → Q v H3) ∧ (valV kvs k = none → Q z (upd H3 a (.dT (putK kvs k z)))))
theorem pe_setdA (hu : X.A.units + 1 < cLine) (ho : PE X o td) (he : PE X e ty) (hf : PE X f tx) (m : M2 X o "setdefault" apos e f cpos) : PE X (.Call (.Attribute o "setdefault" apos) [e, f] [] cpos) (tSetdA td ty tx) := by
  refine ⟨fun pins s σ H Q I h => ?_⟩
  refine wpAny_Call_method m.base m.few m.line PySem.F.plainAttrs_dict PySem.F.slot_dict_setdefault PySem.F.type_dict_setdefault (thn (ho.run pins s σ H _ I h) fun u s1 ⟨x, H1, I1, rx, a, ex, d, q1⟩ => ?_)
  subst ex
  obtain rfl : u = Value.ref a := rx
  obtain ⟨t1, t2, _⟩ := isD_at I1 d
  refine ⟨t1, t2, ?_⟩
  rw [m.trees]
  refine Calls.callWith_builtin rfl (Calls.evalArgs_plain (Calls.spliced_cons (thn (he.run pins s1 σ H1 _ I1 q1) fun iv s2 ⟨y, H2, I2, ry, q2⟩ =>
    Calls.spliced_cons (thn (hf.run pins s2 σ H2 _ I2 q2) fun fv s3 ⟨z, H3, I3, rz, q3⟩ => Calls.spliced_nil ?_))))
  rcases q3 with ⟨kvs, k, ea, ey, hl, q3, q4⟩ | ⟨kvs, k, b, ea, ey, eb, hl, q3, q4⟩
  · subst ey
    exact d_setd I3 ea ry rz hl (fun v hv w' s4 I4 rw' => ⟨v, _, I4, rw', q3 v hv⟩) fun hn w' s4 I4 rw' => ⟨z, _, I4, rw', q4 hn⟩
  · subst ey
    cases (show iv = Value.ref b from ry)
    exact d_setdT hu I3 ea eb rz hl (fun v hv w' s4 I4 rw' => ⟨v, _, I4, rw', q3 v hv⟩) fun hn w' s4 I4 rw' => ⟨z, _, I4, rw', q4 hn⟩
def xSetd (fd fy fx : XE) : XE := fun s m => bd (fd s m) fun d m1 => cond (isDic m1 d) (bd (fy s m1) fun y m2 => bd (fx s m2) fun z m3 => match dget m3 d y with
  | some (some u) => cond (match d with
    | .ref n => match m3.get n with
      | some (.dK kvs) => Nat.ble kvs.length 1000000
      | some (.dT kvs) => Nat.ble kvs.length 1000000
      | _ => false
    | _ => false) (some (u, m3)) none
  | some none => match dput m3 d y z with
    | some m4 => some (z, m4)
    | none => none
  | none => none) none
theorem so_setd {W : Wd} (hd : SoE W td fd) (hy : SoE W ty fy) (hx : SoE W tx fx) : SoE W (tSetdA td ty tx) (xSetd fd fy fx) := by
  intro s m u m' h ρ σ H Q r rs q
  obtain ⟨d, m1, e1, h⟩ := bd_inv h
  obtain ⟨c, h⟩ := cond_inv h
  obtain ⟨y, m2, e2, h⟩ := bd_inv h
  obtain ⟨z, m3, e3, h⟩ := bd_inv h
  refine hd s m d m1 e1 ρ σ H _ r rs fun ρ1 v1 H1 p1 r1 rv1 => ?_
  obtain ⟨a, rfl, hD⟩ := isDic_ok r1 c rv1
  refine ⟨a, rfl, hD, ?_⟩
  refine hy s m1 y m2 e2 ρ1 σ H1 _ r1 (rs.mono p1) fun ρ2 v2 H2 p2 r2 rv2 => ?_
  refine hx s m2 z m3 e3 ρ2 σ H2 _ r2 (rs.mono (p1.trans p2)) fun ρ3 v3 H3 p3 r3 rv3 => ?_
  have pp := p1.trans (p2.trans p3)
  have rd := RV.mono (p2.trans p3) rv1
  have ry := RV.mono p3 rv2
  cases d with
  | ref n =>
    obtain ⟨a', ha, ea⟩ := rd
    cases ea
    cases g : m3.get n with
    | none =>
      have e4 : dget m3 (.ref n) y = none := by unfold dget; simp only [g]
      simp only [e4] at h
      cases h
    | some ob =>
      cases ob with
      | dK kvs =>
        obtain ⟨ws, e', r'⟩ := r3.at ha g
        cases ek : keyU y with
        | none =>
          have e4 : dget m3 (.ref n) y = none := by unfold dget; simp only [g, ek]
          simp only [e4] at h
          cases h
        | some k =>
          have e4 : dget m3 (.ref n) y = some (valU kvs k) := by unfold dget; simp only [g, ek]
          have e5 : dput m3 (.ref n) y z = cond (Nat.ble kvs.length 1000000) (some (m3.put n (.dK (putU kvs k z)))) none := by unfold dput; simp only [g, ek]
          simp only [e4, g] at h
          cases keyU_ok ek ry
          have hv := val_ok r' k
          cases ev : valU kvs k with
          | some w =>
            simp only [ev] at h
            obtain ⟨hf, h⟩ := cond_inv h
            cases h
            rw [ev] at hv
            refine .inl ⟨ws, k, e', rfl, r'.few hf, fun v ev2 => ?_, fun en => ?_⟩
            · rw [ev2] at hv
              exact q ρ3 v H3 pp r3 hv
            · rw [en] at hv
              exact hv.elim
          | none =>
            simp only [ev, e5] at h
            cases hf : Nat.ble kvs.length 1000000 with
            | false => simp only [hf, cond_false] at h; cases h
            | true =>
              simp only [hf, cond_true] at h
              cases h
              rw [ev] at hv
              refine .inl ⟨ws, k, e', rfl, r'.few hf, fun v ev2 => ?_, fun en => ?_⟩
              · rw [ev2] at hv
                exact hv.elim
              · exact q ρ3 _ _ pp (r3.putK ha g e' (putU_ok rv3 r')) rv3
      | dT kvs =>
        obtain ⟨ws, e', r'⟩ := r3.at ha g
        cases ek : tupKey m3 y with
        | none =>
          have e4 : dget m3 (.ref n) y = none := by unfold dget; simp only [g, ek]
          simp only [e4] at h
          cases h
        | some k =>
          have e4 : dget m3 (.ref n) y = some (valU kvs k) := by unfold dget; simp only [g, ek]
          have e5 : dput m3 (.ref n) y z = cond (Nat.ble kvs.length 1000000) (some (m3.put n (.dT (putU kvs k z)))) none := by unfold dput; simp only [g, ek]
          simp only [e4, g] at h
          obtain ⟨b, rfl, eb⟩ := tupKey_ok r3 ek ry
          have hv := val_ok r' k
          cases ev : valU kvs k with
          | some w =>
            simp only [ev] at h
            obtain ⟨hf, h⟩ := cond_inv h
            cases h
            rw [ev] at hv
            refine .inr ⟨ws, k, b, e', rfl, eb, r'.few hf, fun v ev2 => ?_, fun en => ?_⟩
            · rw [ev2] at hv
              exact q ρ3 v H3 pp r3 hv
            · rw [en] at hv
              exact hv.elim
          | none =>
            simp only [ev, e5] at h
            cases hf : Nat.ble kvs.length 1000000 with
            | false => simp only [hf, cond_false] at h; cases h
            | true =>
              simp only [hf, cond_true] at h
              cases h
              rw [ev] at hv
              refine .inr ⟨ws, k, b, e', rfl, eb, r'.few hf, fun v ev2 => ?_, fun en => ?_⟩
              · rw [ev2] at hv
                exact hv.elim
              · exact q ρ3 _ _ pp (r3.putT ha g e' (putU_ok rv3 r')) rv3
      | _ =>
        have e4 : dget m3 (.ref n) y = none := by unfold dget; simp only [g]
        simp only [e4] at h
        cases h
  | _ => cases c
theorem se_setd (hr : Room k X.A) (hd : SE CA X o td fd) (hy : SE CA X e ty fy) (hx : SE CA X f tx fx) (m : M2 X o "setdefault" apos e f cpos := by exact ⟨rfl, rfl, rfl, rfl⟩) : SE CA X (.Call (.Attribute o "setdefault" apos) [e, f] [] cpos) (tSetdA td ty tx) (xSetd fd fy fx) :=
  ⟨pe_setdA (hu_of hr) hd.pe hy.pe hx.pe m, so_setd hd.so hy.so hx.so⟩
end
end Sh
end

noncomputable section
namespace Sh
open PySem PySem.Spec PyProof.Rows L2

/-! ### targets: the slots that they set are told -/
def SetsIn (ws : List Nat) (σ σ' : L2.St) : Prop := σ'.length = σ.length ∧ ∀ i, i ∉ ws → σ'[i]? = σ[i]?
theorem SetsIn.refl (ws : List Nat) (σ : L2.St) : SetsIn ws σ σ := ⟨rfl, fun _ _ => rfl⟩
theorem SetsIn.trans {ws ws' : List Nat} {σ σ1 σ2 : L2.St} (a : SetsIn ws σ σ1) (b : SetsIn ws' σ1 σ2) : SetsIn (ws ++ ws') σ σ2 :=
  ⟨b.1.trans a.1, fun i h => (b.2 i fun z => h (List.mem_append_right _ z)).trans (a.2 i fun z => h (List.mem_append_left _ z))⟩
theorem SetsIn.set (i : Nat) (v : Option V) (σ : L2.St) : SetsIn [i] σ (σ.set i v) := ⟨List.length_set, fun j h => by
  rw [List.getElem?_set_ne]
  intro e
  exact h (by simp [e])⟩
theorem wipe_get : ∀ (vs : List Nat) (σ : L2.St) (i : Nat), i < σ.length → (wipe σ vs)[i]? = if i ∈ vs then some none else σ[i]?
  | [], σ, i, _ => by rw [if_neg (by simp)]; rfl
  | v :: vs, σ, i, h => by
    unfold wipe
    by_cases e : v = i
    · subst e
      rw [if_pos (by simp), List.getElem?_set_self (by rw [wipe_length]; exact h)]
    · rw [List.getElem?_set_ne e, wipe_get vs σ i h]
      by_cases hm : i ∈ vs
      · rw [if_pos hm, if_pos (List.mem_cons_of_mem _ hm)]
      · rw [if_neg hm, if_neg (by simp only [List.mem_cons, not_or]; exact ⟨fun z => e z.symm, hm⟩)]
theorem wipe_sets {ws vs : List Nat} {σ σ' : L2.St} (h : SetsIn ws (wipe σ vs) σ') (hs : ∀ i ∈ ws, i ∈ vs) : wipe σ' vs = wipe σ vs := by
  have hl : σ'.length = σ.length := by rw [h.1, wipe_length]
  apply List.ext_getElem?
  intro i
  by_cases hi : i < σ.length
  · rw [wipe_get vs σ' i (by rw [hl]; exact hi), wipe_get vs σ i hi]
    by_cases hm : i ∈ vs
    · rw [if_pos hm, if_pos hm]
    · rw [if_neg hm, if_neg hm, h.2 i fun z => hm (hs i z), wipe_get vs σ i hi, if_neg hm]
  · rw [List.getElem?_eq_none (by rw [wipe_length, hl]; omega), List.getElem?_eq_none (by rw [wipe_length]; omega)]
def wipeU (s : S) : List Nat → S
  | [] => s
  | v :: vs => (wipeU s vs).set v none
theorem Rs.wipe {ρ : List Addr} {s : S} {σ : L2.St} (r : Rs ρ s σ) : ∀ vs : List Nat, Rs ρ (wipeU s vs) (wipe σ vs)
  | [] => r
  | v :: vs => Paired.set (F := RSl ρ) (x := none) (y := none) trivial v (Rs.wipe r vs)
abbrev XGs := List U → S → Mem → Option (S × Mem)
def SoH (W : Wd) (t : TG) (f : XG) (ws : List Nat) : Prop := ∀ u s m s' m', f u s m = some (s', m') → ∀ ρ v σ H Q, R W ρ m H → Rs ρ s σ → RV ρ u v → (∀ ρ' σ' H', ρ <+: ρ' → R W ρ' m' H' → Rs ρ' s' σ' → SetsIn ws σ σ' → Q σ' H') → t v σ H Q
def SoHs (W : Wd) (t : TGs) (f : XGs) (ws : List Nat) : Prop := ∀ us s m s' m', f us s m = some (s', m') → ∀ ρ vs σ H Q, R W ρ m H → Rs ρ s σ → RVs ρ us vs → (∀ ρ' σ' H', ρ <+: ρ' → R W ρ' m' H' → Rs ρ' s' σ' → SetsIn ws σ σ' → Q σ' H') → t vs σ H Q
structure SH (CA : Cd) (X : Cx) (e : Expr) (t : TG) (f : XG) (ws : List Nat) : Prop where
  pe : PG X e t
  so : SoH (wd CA X) t f ws
structure SHs (CA : Cd) (X : Cx) (es : List Expr) (t : TGs) (f : XGs) (ws : List Nat) : Prop where
  pe : PGs X es t
  so : SoHs (wd CA X) t f ws
section
variable {CA : Cd} {X : Cx} {k j : Nat} {a b o i e c value : Expr} {es : List Expr} {pos pos' p : Pos} {ta tb tv te : TE} {fa fb fv fe : XE} {tr : TA} {fr : XA} {tg : TG} {tgs : TGs} {fg : XG} {fgs : XGs} {ws ws' : List Nat}
def hName (i : Nat) : XG := fun u s m => some (s.set i (some u), m)
theorem sh_name {i : Nat} {x : Str} (h : PG X (.Name x pos) (gName i)) : SH CA X (.Name x pos) (gName i) (hName i) [i] := ⟨h, by
  intro u s m s' m' h ρ v σ H Q r rs rv q
  cases h
  exact q ρ _ H (List.prefix_refl ρ) r (Paired.set (F := RSl ρ) (x := some u) (y := some v) rv i rs) (SetsIn.set i _ σ)⟩
def hNil : XGs := fun us s m => match us with
  | [] => some (s, m)
  | _ => none
def hCons (f : XG) (fr : XGs) : XGs := fun us s m => match us with
  | u :: r => match f u s m with
    | some (s1, m1) => fr r s1 m1
    | none => none
  | [] => none
theorem shs_nil : SHs CA X [] gNil hNil [] := ⟨pgs_nil, by
  intro us s m s' m' h ρ vs σ H Q r rs rv q
  match us, h, rv with
  | [], h, .nil =>
    cases h
    exact ⟨rfl, q ρ σ H (List.prefix_refl ρ) r rs (SetsIn.refl _ σ)⟩⟩
theorem shs_cons (h1 : SH CA X a tg fg ws) (h2 : SHs CA X es tgs fgs ws') (hs : (assignEach (a :: es) X.env).map (·.2) = assign a X.env :: (assignEach es X.env).map (·.2) := by rfl) : SHs CA X (a :: es) (gCons tg tgs) (hCons fg fgs) (ws ++ ws') := ⟨pgs_cons h1.pe h2.pe hs, by
  intro us s m s' m' h ρ vs σ H Q r rs rv q
  match us, h, rv with
  | u :: ur, h, .cons ru rr =>
    simp only [hCons] at h
    cases e1 : fg u s m with
    | none => simp only [e1] at h; cases h
    | some z =>
      obtain ⟨s1, m1⟩ := z
      simp only [e1] at h
      refine ⟨_, _, rfl, ?_⟩
      refine h1.so u s m s1 m1 e1 ρ _ σ H _ r rs ru fun ρ1 σ1 H1 p1 r1 rs1 w1 => ?_
      exact h2.so ur s1 m1 s' m' h ρ1 _ σ1 H1 Q r1 rs1 (RVs.mono p1 rr) fun ρ2 σ2 H2 p2 r2 rs2 w2 => q ρ2 σ2 H2 (p1.trans p2) r2 rs2 (w1.trans w2)⟩
def hTup (n : Nat) (f : XGs) : XG := fun u s m => match seqT m u with
  | some xs => cond (Nat.beq xs.length n) (f xs s m) none
  | none => match seqL m u with
    | some xs => cond (Nat.beq xs.length n) (f xs s m) none
    | none => none
def gUnp (K : PySem.W.Frag) (n : Nat) (t : TGs) : TG := fun v σ H Q => gTup K n t v σ H Q ∨ gUnl K n t v σ H Q
theorem sh_tup {n kk : Nat} (hc : X.calm = true) (h : SHs CA X es tgs fgs ws) (hn : (assignEach es X.env).length = n := by rfl) (hst : (assignEach es X.env).findIdx? (·.1) = none := by rfl) : SH CA X (.Tuple es kk pos) (gUnp X.K n tgs) (hTup n fgs) ws := ⟨⟨fun pins s σ H v u Q I r q => q.elim ((pg_tup hc h.pe hn hst).run pins s σ H v u Q I r) ((pg_unl hc h.pe hn hst).run pins s σ H v u Q I r)⟩, by
  intro u s m s' m' h' ρ v σ H Q r rs rv q
  unfold hTup at h'
  cases e : seqT m u with
  | none =>
    simp only [e] at h'
    cases e2 : seqL m u with
    | none => simp only [e2] at h'; cases h'
    | some xs =>
      simp only [e2] at h'
      obtain ⟨hl, h'⟩ := cond_inv h'
      obtain ⟨a, vs, rfl, h1, r1⟩ := seqL_inv r e2 rv
      exact .inr ⟨a, vs, rfl, .inl h1, by rw [← Paired.length r1]; exact Nat.eq_of_beq_eq_true hl, h.so xs s m s' m' h' ρ vs σ H Q r rs r1 q⟩
  | some xs =>
    simp only [e] at h'
    obtain ⟨hl, h'⟩ := cond_inv h'
    obtain ⟨a, vs, rfl, h1, r1⟩ := seqT_inv r e rv
    exact .inl ⟨a, vs, rfl, h1, by rw [← Paired.length r1]; exact Nat.eq_of_beq_eq_true hl, h.so xs s m s' m' h' ρ vs σ H Q r rs r1 q⟩⟩
/-! o[i] = v -/
def rSetA : TSet := fun o i v H Q => rSetL o i v H Q ∨ rSetD o i v H Q
theorem set_all (hr : Room k X.A) : PSet X rSetA := by
  intro pins s σ H o i v ov iv u Q I ro ri rv h
  rcases h with h | h
  · exact set_list pins s σ H o i v ov iv u Q I ro ri rv h
  · exact set_dict (hu_of hr) pins s σ H o i v ov iv u Q I ro ri rv h
def setIx (m : Mem) (o i v : U) : Option Mem := match o with
  | .ref n => match m.get n with
    | some (.lst xs) => match i with
      | .int z => match ixN xs.length z with
        | some j => some (m.put n (.lst (xs.set j v)))
        | none => none
      | _ => none
    | _ => dput m o i v
  | _ => none
theorem setIx_ok {W : Wd} {ρ : List Addr} {m m' : Mem} {H : Hp} {o i v : U} {vo vi vv : V} {Q : Hp → Prop} (r : R W ρ m H) (h : setIx m o i v = some m') (ro : RV ρ o vo) (ri : RV ρ i vi) (rv : RV ρ v vv) (q : ∀ H', R W ρ m' H' → Q H') : rSetA vo vi vv H Q := by
  cases o with
  | ref n =>
    cases g : m.get n with
    | none =>
      have e : setIx m (.ref n) i v = none := by unfold setIx dput; simp only [g]
      rw [e] at h; cases h
    | some ob =>
      cases ob with
      | lst xs =>
        obtain ⟨a, ha, rfl⟩ := ro
        unfold setIx at h
        simp only [g] at h
        cases i with
        | int z =>
          simp only at h
          cases e : ixN xs.length z with
          | none => simp only [e] at h; cases h
          | some j =>
            simp only [e] at h
            cases h
            obtain ⟨vs, e', r'⟩ := r.at ha g
            cases ri
            exact .inl ⟨a, vs, z, j, rfl, rfl, e', by rw [← Paired.length r']; exact e, q _ (r.putLst ha g e' (Paired.set rv j r'))⟩
        | _ => cases h
      | _ =>
        have h2 : dput m (.ref n) i v = some m' := by
          unfold setIx at h
          simp only [g] at h
          exact h
        obtain ⟨a, H', rfl, hp, r'⟩ := dput_ok r h2 ro ri rv
        exact .inr ⟨a, H', rfl, hp, q H' r'⟩
  | _ => cases h
def hSub (fo fi : XE) : XG := fun u s m => bd (fo s m) fun o m1 => bd (fi s m1) fun i m2 => match setIx m2 o i u with
  | some m3 => some (s, m3)
  | none => none
theorem sh_sub (hr : Room k X.A) (ho : SE CA X o ta fa) (hi : SE CA X i tb fb)
    (ha : ∀ v, assign (.Subscript o i pos) X.env v = (do
      let ov ← holding [v] (eval o X.env)
      let iv ← holding [v, ov] (eval i X.env)
      standAt pos
      holding [v, ov, iv] (setItem ov iv v)
      release [v, ov, iv] []) := by intro _; rfl) : SH CA X (.Subscript o i pos) (L2.gSub ta tb rSetA) (hSub fa fb) [] := ⟨pg_sub ho.pe hi.pe (set_all hr) ha, by
  intro u s m s' m' h ρ v σ H Q r rs rv q
  obtain ⟨x, m1, e1, h⟩ := bd_inv h
  obtain ⟨y, m2, e2, h⟩ := bd_inv h
  refine ho.so s m x m1 e1 ρ σ H _ r rs fun ρ1 v1 H1 p1 r1 rv1 => ?_
  refine hi.so s m1 y m2 e2 ρ1 σ H1 _ r1 (rs.mono p1) fun ρ2 v2 H2 p2 r2 rv2 => ?_
  cases e3 : setIx m2 x y u with
  | none => simp only [e3] at h; cases h
  | some m3 =>
    simp only [e3] at h
    cases h
    exact setIx_ok r2 e3 (RV.mono p2 rv1) rv2 (RV.mono (p1.trans p2) rv) fun H' r3 => q ρ2 σ H' (p1.trans p2) r3 (rs.mono (p1.trans p2)) (SetsIn.refl _ σ)⟩

/-! ### statements -/
variable {st : Stmt} {rest sts sts' : List Stmt} {t t' : TS} {f f' : XS} {tA : TT} {gA : XT}
theorem AfS.mono {W : Wd} {ρ ρ' : List Addr} {m : Mem} {D : Ends} (h : ρ <+: ρ') : ∀ {fl : Fl}, AfS W ρ m D fl → AfS W ρ' m D fl
  | .nx _, q => fun ρ2 σ' H' p => q ρ2 σ' H' (h.trans p)
  | .bk _, q => fun ρ2 σ' H' p => q ρ2 σ' H' (h.trans p)
  | .ct _, q => fun ρ2 σ' H' p => q ρ2 σ' H' (h.trans p)
  | .rt _, q => fun ρ2 v H' p => q ρ2 v H' (h.trans p)
def yNx : XS := fun s m => some (.nx s, m)
def yNo : XS := fun _ _ => none
theorem sss_nil : SSs CA X [] tNext yNx := ⟨pss_nil, by
  intro s m fl m' h ρ σ H D r rs q
  cases h
  exact q ρ σ H (List.prefix_refl ρ) r rs⟩
theorem ss_pass : SS CA X (.Pass pos) tNext yNx := ⟨ps_pass, by
  intro s m fl m' h ρ σ H D r rs q
  cases h
  exact q ρ σ H (List.prefix_refl ρ) r rs⟩
theorem ss_no : SS CA X st tNever yNo := ⟨ps_never, fun _ _ _ _ h => nomatch h⟩
theorem sss_no : SSs CA X sts tNever yNo := ⟨pss_never, fun _ _ _ _ h => nomatch h⟩
def ySeq (f g : XS) : XS := fun s m => match f s m with
  | some (.nx s1, m1) => g s1 m1
  | some (.rt u, m1) => some (.rt u, m1)
  | some (.bk s1, m1) => some (.bk s1, m1)
  | some (.ct s1, m1) => some (.ct s1, m1)
  | none => none
theorem so_seq {W : Wd} (h1 : SoS W t f) (h2 : SoS W t' f') : SoS W (tSeq t t') (ySeq f f') := by
  intro s m fl m' h ρ σ H D r rs q
  unfold ySeq at h
  cases e : f s m with
  | none => simp only [e] at h; cases h
  | some z =>
    obtain ⟨fl1, m1⟩ := z
    simp only [e] at h
    refine h1 s m fl1 m1 e ρ σ H _ r rs ?_
    cases fl1 with
    | nx s1 =>
      intro ρ1 σ1 H1 p1 r1 rs1
      exact h2 s1 m1 fl m' h ρ1 σ1 H1 D r1 rs1 (AfS.mono p1 q)
    | rt u => cases h; exact q
    | bk s1 => cases h; exact q
    | ct s1 => cases h; exact q
theorem sss_cons (h1 : SS CA X st t f) (h2 : SSs CA X rest t' f') : SSs CA X (st :: rest) (tSeq t t') (ySeq f f') := ⟨pss_cons h1.pe h2.pe, so_seq h1.so h2.so⟩
theorem sss_one (h1 : SS CA X st t f) : SSs CA X [st] t f := ⟨pss_one h1.pe, h1.so⟩
def yDrop (fa : XE) : XS := fun s m => bd (fa s m) fun _ m1 => some (.nx s, m1)
theorem ss_expr (ha : SE CA X e te fe) (hs : swapsWith e none pos.line X.env = pure false := by rfl) : SS CA X (.Expr e pos) (tDrop te) (yDrop fe) := ⟨ps_expr ha.pe hs, by
  intro s m fl m' h ρ σ H D r rs q
  obtain ⟨x, m1, e1, h⟩ := bd_inv h
  cases h
  exact ha.so s m x _ e1 ρ σ H _ r rs fun ρ1 v1 H1 p1 r1 rv1 => q ρ1 σ H1 p1 r1 (rs.mono p1)⟩
theorem ss_doc {x j} : SS CA X (.Expr (.Constant (.str x) j pos) pos') tNext yNx := ⟨ps_doc, by
  intro s m fl m' h ρ σ H D r rs q
  cases h
  exact q ρ σ H (List.prefix_refl ρ) r rs⟩
def yRet (fa : XE) : XS := fun s m => bd (fa s m) fun u m1 => some (.rt u, m1)
theorem ss_ret (ha : SE CA X e te fe) : SS CA X (.Return (some e) pos) (tRet te) (yRet fe) := ⟨ps_ret ha.pe, by
  intro s m fl m' h ρ σ H D r rs q
  obtain ⟨x, m1, e1, h⟩ := bd_inv h
  cases h
  exact ha.so s m x _ e1 ρ σ H _ r rs fun ρ1 v1 H1 p1 r1 rv1 => q ρ1 v1 H1 p1 r1 rv1⟩
def yRetN : XS := fun s m => some (.rt .non, m)
theorem ss_retN : SS CA X (.Return none pos) tRetN yRetN := ⟨ps_retN, by
  intro s m fl m' h ρ σ H D r rs q
  cases h
  exact q ρ _ H (List.prefix_refl ρ) r rfl⟩
def yIf (c : XT) (f g : XS) : XS := fun s m => bd (c s m) fun k m1 => match k with
  | true => f s m1
  | false => g s m1
theorem ss_if (hc : ST CA X c tA gA) (h1 : SSs CA X sts t f) (h2 : SSs CA X sts' t' f') : SS CA X (.If c sts sts' pos) (tIfS tA t t') (yIf gA f f') := ⟨ps_if hc.pe h1.pe h2.pe, by
  intro s m fl m' h ρ σ H D r rs q
  obtain ⟨k, m1, e1, h⟩ := bd_inv h
  refine hc.so s m k m1 e1 ρ σ H _ r rs fun ρ1 H1 p1 r1 => ?_
  cases k with
  | true => rw [if_pos rfl]; exact h1.so s m1 fl m' h ρ1 σ H1 D r1 (rs.mono p1) (AfS.mono p1 q)
  | false => rw [if_neg Bool.false_ne_true]; exact h2.so s m1 fl m' h ρ1 σ H1 D r1 (rs.mono p1) (AfS.mono p1 q)⟩
def yBreak : XS := fun s m => some (.bk s, m)
def yCont : XS := fun s m => some (.ct s, m)
theorem ss_break : SS CA X (.Break pos) tBreak yBreak := ⟨ps_break, by
  intro s m fl m' h ρ σ H D r rs q
  cases h
  exact q ρ σ H (List.prefix_refl ρ) r rs⟩
theorem ss_cont : SS CA X (.Continue pos) tCont yCont := ⟨ps_continue, by
  intro s m fl m' h ρ σ H D r rs q
  cases h
  exact q ρ σ H (List.prefix_refl ρ) r rs⟩
def yAsg (fa : XE) (g : XG) : XS := fun s m => bd (fa s m) fun u m1 => match g u s m1 with
  | some (s', m2) => some (.nx s', m2)
  | none => none
theorem so_asg {W : Wd} (ha : SoE W te fe) (hg : SoH W tg fg ws) : SoS W (tAsg te tg) (yAsg fe fg) := by
  intro s m fl m' h ρ σ H D r rs q
  obtain ⟨x, m1, e1, h⟩ := bd_inv h
  refine ha s m x m1 e1 ρ σ H _ r rs fun ρ1 v1 H1 p1 r1 rv1 => ?_
  cases e2 : fg x s m1 with
  | none => simp only [e2] at h; cases h
  | some z =>
    obtain ⟨s', m2⟩ := z
    simp only [e2] at h
    cases h
    exact hg x s m1 _ _ e2 ρ1 v1 σ H1 _ r1 (rs.mono p1) rv1 fun ρ2 σ2 H2 p2 r2 rs2 _ => q ρ2 σ2 H2 (p1.trans p2) r2 rs2
theorem so_name {W : Wd} {i : Nat} : SoH W (gName i) (hName i) [i] := by
  intro u s m s' m' h ρ v σ H Q r rs rv q
  cases h
  exact q ρ _ H (List.prefix_refl ρ) r (Paired.set (F := RSl ρ) (x := some u) (y := some v) rv i rs) (SetsIn.set i _ σ)
theorem ss_set {i : Nat} {x : Str} {pos' : Pos} (he : SE CA X e te fe) (h : PE X e te → PS X (.Assign [.Name x pos'] e pos) (tAsg te (gName i))) : SS CA X (.Assign [.Name x pos'] e pos) (tAsg te (gName i)) (yAsg fe (hName i)) := ⟨h he.pe, so_asg he.so so_name⟩
theorem ss_asg (he : SE CA X e te fe) (hg : SH CA X a tg fg ws) (hs : swapsWithSole [a] e pos.line X.env = pure false := by rfl) (hw : swappedStores [a] e X.env = pure none := by rfl)
    (h1 : (assignEach [a] X.env).map (·.2) = [assign a X.env] := by rfl) : SS CA X (.Assign [a] e pos) (tAsg te tg) (yAsg fe fg) := ⟨ps_asg he.pe hg.pe hs hw h1, so_asg he.so hg.so⟩
/-- a, b = x, y -/
def yPar (i j : Nat) (fr : XA) : XS := fun s m => bd (fr s m) fun us m1 => match us with
  | [u, w] => some (.nx ((s.set i (some u)).set j (some w)), m1)
  | _ => none
theorem so_par {W : Wd} {i j : Nat} (ha : SoA W tr fr) : SoS W (tPar i j tr) (yPar i j fr) := by
  intro s m fl m' h ρ σ H D r rs q
  obtain ⟨us, m1, e1, h⟩ := bd_inv h
  refine ha s m us m1 e1 ρ σ H _ r rs fun ρ1 vs H1 p1 r1 rv1 => ?_
  match us, h, rv1 with
  | [u, w], h, .cons ru (.cons rw .nil) =>
    cases h
    exact ⟨_, _, rfl, q ρ1 _ H1 p1 r1 (Paired.set (F := RSl ρ1) (x := some w) (y := some _) rw j (Paired.set (F := RSl ρ1) (x := some u) (y := some _) ru i (rs.mono p1)))⟩
theorem ss_par {i j : Nat} (ha : SA CA X es tr fr) (h : PA X es tr → PS X st (tPar i j tr)) : SS CA X st (tPar i j tr) (yPar i j fr) := ⟨h ha.pe, so_par ha.so⟩
def yPar3 (i j l : Nat) (fr : XA) : XS := fun s m => bd (fr s m) fun us m1 => match us with
  | [u, w, z] => some (.nx (((s.set i (some u)).set j (some w)).set l (some z)), m1)
  | _ => none
theorem so_par3 {W : Wd} {i j l : Nat} (ha : SoA W tr fr) : SoS W (tPar3 i j l tr) (yPar3 i j l fr) := by
  intro s m fl m' h ρ σ H D r rs q
  obtain ⟨us, m1, e1, h⟩ := bd_inv h
  refine ha s m us m1 e1 ρ σ H _ r rs fun ρ1 vs H1 p1 r1 rv1 => ?_
  match us, h, rv1 with
  | [u, w, z], h, .cons ru (.cons rw (.cons rz .nil)) =>
    cases h
    exact ⟨_, _, _, rfl, q ρ1 _ H1 p1 r1 (Paired.set (F := RSl ρ1) (x := some z) (y := some _) rz l (Paired.set (F := RSl ρ1) (x := some w) (y := some _) rw j (Paired.set (F := RSl ρ1) (x := some u) (y := some _) ru i (rs.mono p1))))⟩
theorem ss_par3 {i j l : Nat} (ha : SA CA X es tr fr) (h : PA X es tr → PS X st (tPar3 i j l tr)) : SS CA X st (tPar3 i j l tr) (yPar3 i j l fr) := ⟨h ha.pe, so_par3 ha.so⟩
/-! o[i] op= e, ints in a list -/
def tget (K : PySem.W.Frag) : V → V → Hp → VK → Prop := fun x y H Q => rIxL K x y H Q ∨ rIxDD x y H Q
theorem pget (hr : Room k X.A) : PGet X (tget X.K) := by
  intro pins s σ H o i ov iv Q I ro ri h
  rcases h with h | h
  · obtain ⟨p, xs, z, v, rfl, rfl, hq, he, q⟩ := h
    cases ro
    obtain ⟨t, rfl⟩ := ri
    obtain ⟨its, r, pl, hz⟩ := I.list hq
    obtain ⟨j, h1, h2, h3, h4, h5⟩ := atI_get he
    obtain ⟨w, ew, rw'⟩ := r.get h2
    have hl := r.length
    have hn := line63
    have fin : EP X pins σ Q w s := ⟨v, H, I, rw', q⟩
    by_cases h0 : 0 ≤ z
    · have hj : z.toNat = j := by
        rw [seqIndex_of h0 h5] at h1
        exact Option.some.inj h1
      exact wpAny_getItem_list pl.isList h0 (by omega) (by rw [hj]; simpa using ew) fin
    · have hj : (z + (its.toArray.size : Int)).toNat = j := by
        rw [seqIndex_neg (by omega) h4] at h1
        rw [List.size_toArray, ← hl]
        exact Option.some.inj h1
      exact wpAny_getItem_list_neg pl.isList (by omega) (by rw [List.size_toArray] <;> omega) (by omega) (by rw [hj]; simpa using ew) fin
  · obtain ⟨a, z, rfl, g, q⟩ := h
    cases ro
    exact d_getItem (hu_of hr) I g ri fun w' s3 I3 rw' => ⟨z, H, I3, rw', q⟩
def gGet : U → U → Mem → Option (U × Mem) := fun x y m => alt (gIxL x y m) (gIxD x y m)
def yAugS (g : U → U → Mem → Option (U × Mem)) (fo fi fe : XE) : XS := fun s m => bd (fo s m) fun o m1 => bd (fi s m1) fun i m2 => bd (gGet o i m2) fun x m3 => bd (fe s m3) fun y m4 => bd (g x y m4) fun z m5 => match setIx m5 o i z with
  | some m6 => some (.nx s, m6)
  | none => none
theorem ss_augS {op : Operator} {g : U → U → Mem → Option (U × Mem)} {ti : TIp} (hr : Room k X.A) (ho : SE CA X o ta fa) (hi : SE CA X i tb fb) (he : SE CA X e te fe) (hp : PIp X op ti) (hg : SoR (wd CA X) ti g)
    (ha : ∀ ov iv new, augStore i ov iv new = (do holding [new, ov, iv] (setItem ov iv new); release [new, ov, iv] []; pure .next) := by intros; rfl) : SS CA X (.AugAssign (.Subscript o i p) op e pos) (tAugS ta tb te (tget X.K) ti rSetA) (yAugS g fa fb fe) :=
  ⟨ps_augS ho.pe hi.pe (pget hr) he.pe hp (set_all hr) ha, by
    intro s m fl m' h ρ σ H D r rs q
    obtain ⟨x, m1, e1, h⟩ := bd_inv h
    obtain ⟨y, m2, e2, h⟩ := bd_inv h
    obtain ⟨x3, m3, e3, h⟩ := bd_inv h
    obtain ⟨x4, m4, e4, h⟩ := bd_inv h
    obtain ⟨x5, m5, e5, h⟩ := bd_inv h
    refine ho.so s m x m1 e1 ρ σ H _ r rs fun ρ1 v1 H1 p1 r1 rv1 => ?_
    refine hi.so s m1 y m2 e2 ρ1 σ H1 _ r1 (rs.mono p1) fun ρ2 v2 H2 p2 r2 rv2 => ?_
    refine (SoR.or i_list.so (i_dict (CA := CA) hr).so) x y m2 x3 m3 e3 ρ2 v1 v2 H2 _ r2 (RV.mono p2 rv1) rv2 fun ρ3 v3 H3 p3 r3 rv3 => ?_
    refine he.so s m3 x4 m4 e4 ρ3 σ H3 _ r3 (rs.mono (p1.trans (p2.trans p3))) fun ρ4 v4 H4 p4 r4 rv4 => ?_
    refine hg x3 x4 m4 x5 m5 e5 ρ4 v3 v4 H4 _ r4 (RV.mono p4 rv3) rv4 fun ρ5 v5 H5 p5 r5 rv5 => ?_
    cases e6 : setIx m5 x y x5 with
    | none => simp only [e6] at h; cases h
    | some m6 =>
      simp only [e6] at h
      cases h
      have pp := p1.trans (p2.trans (p3.trans (p4.trans p5)))
      exact setIx_ok r5 e6 (RV.mono (p2.trans (p3.trans (p4.trans p5))) rv1) (RV.mono (p3.trans (p4.trans p5)) rv2) rv5 fun H' r6 => q ρ5 σ H' pp r6 (rs.mono pp)⟩
/-! name op= e -/
def yAug (i : Nat) (g : U → U → Mem → Option (U × Mem)) (fe : XE) : XS := fun s m => match s[i]? with
  | some (some x) => bd (fe s m) fun y m1 => bd (g x y m1) fun z m2 => some (.nx (s.set i (some z)), m2)
  | _ => none
theorem so_aug {W : Wd} {i : Nat} {ti : TIp} {g : U → U → Mem → Option (U × Mem)} (hg : SoR W ti g) (he : SoE W te fe) : SoS W (tAug i te ti) (yAug i g fe) := by
  intro s m fl m' h ρ σ H D r rs q
  unfold yAug at h
  cases e0 : s[i]? with
  | none => simp only [e0] at h; cases h
  | some o =>
    cases o with
    | none => simp only [e0] at h; cases h
    | some x =>
      simp only [e0] at h
      obtain ⟨y, m1, e1, h⟩ := bd_inv h
      obtain ⟨z, m2, e2, h⟩ := bd_inv h
      obtain ⟨w, ew, rw'⟩ := Paired.get rs e0
      cases w with
      | none => exact rw'.elim
      | some v0 =>
        refine ⟨v0, ew, ?_⟩
        refine he s m y m1 e1 ρ σ H _ r rs fun ρ1 v1 H1 p1 r1 rv1 => ?_
        refine hg x y m1 z m2 e2 ρ1 v0 v1 H1 _ r1 (RV.mono p1 rw') rv1 fun ρ2 v2 H2 p2 r2 rv2 => ?_
        cases h
        exact q ρ2 _ H2 (p1.trans p2) r2 (Paired.set (F := RSl ρ2) (x := some z) (y := some _) rv2 i (rs.mono (p1.trans p2)))
theorem ss_aug {i : Nat} {ti : TIp} {g : U → U → Mem → Option (U × Mem)} (hg : SoR (wd CA X) ti g) (he : SE CA X e te fe) (h : PE X e te → PS X st (tAug i te ti)) : SS CA X st (tAug i te ti) (yAug i g fe) := ⟨h he.pe, so_aug hg he.so⟩
end
end Sh
end

noncomputable section
namespace Sh
open PySem PySem.Spec PyProof.Rows L2

/-! ### what a loop walks -/
abbrev Nxt := Nat → Mem → Option (Option (U × Mem))
abbrev XI := S → Mem → Option (Nxt × Mem)
def JOk (W : Wd) (ρ : List Addr) (J : It) (nx : Nxt) : Prop := ∀ ρ' m H i, ρ <+: ρ' → R W ρ' m H →
  (nx i m = some none → J.stop i H) ∧ ∀ x m', nx i m = some (some (x, m')) → J.go i H ∧ ∀ v H', J.yld i H v H' → ∃ ρ2, ρ' <+: ρ2 ∧ R W ρ2 m' H' ∧ RV ρ2 x v
def SoI (W : Wd) (wi : TI) (f : XI) : Prop := ∀ s m nx m', f s m = some (nx, m') → ∀ ρ σ H (Rr : It → Hp → Prop), R W ρ m H → Rs ρ s σ → (∀ ρ' J H', ρ <+: ρ' → R W ρ' m' H' → JOk W ρ' J nx → Rr J H') → wi σ H Rr
structure SIt (CA : Cd) (X : Cx) (tg e : Expr) (wi : TI) (f : XI) : Prop where
  pe : PI X tg e wi
  so : SoI (wd CA X) wi f
theorem PI.or {X : Cx} {tg e : Expr} {wi wj : TI} (h : PI X tg e wi) (h' : PI X tg e wj) : PI X tg e (fun σ H R => wi σ H R ∨ wj σ H R) := ⟨fun pins s σ H Rr I q => q.elim (h.run pins s σ H Rr I) (h'.run pins s σ H Rr I)⟩
def nxOf (f : Mem → Option (List U)) : Nxt := fun i m => match f m with
  | some xs => match xs[i]? with
    | some x => some (some (x, m))
    | none => some none
  | none => none
def xSeq (fa : XE) : XI := fun s m => bd (fa s m) fun u m1 => match seqL m1 u with
  | some _ => some (nxOf fun m => seqL m u, m1)
  | none => match seqT m1 u with
    | some _ => some (nxOf fun m => seqT m u, m1)
    | none => none
theorem jok_list {W : Wd} {ρ : List Addr} {u : U} {a : Addr} (ru : RV ρ u (.ref a)) : JOk W ρ (Itl W.K a) (nxOf fun m => seqL m u) := by
  intro ρ' m H i p r
  unfold nxOf
  dsimp only
  cases e : seqL m u with
  | none => exact ⟨fun h => (nomatch h), fun _ _ h => (nomatch h)⟩
  | some xs =>
    obtain ⟨a', vs, ea, hs, rv⟩ := seqL_inv r e (RV.mono p ru)
    cases ea
    simp only
    cases e2 : xs[i]? with
    | none =>
      refine ⟨fun _ => ⟨vs, .inl hs, ?_⟩, fun _ _ h => (nomatch h)⟩
      rw [← Paired.length rv]
      exact List.getElem?_eq_none_iff.mp e2
    | some x =>
      obtain ⟨y, ey, ry⟩ := Paired.get rv e2
      refine ⟨fun h => (nomatch h), fun x' m' h => ?_⟩
      cases h
      exact ⟨⟨vs, y, .inl hs, ey⟩, fun v H' ⟨eH, q⟩ => ⟨ρ', List.prefix_refl _, by rw [eH]; exact r, by have := q vs (.inl hs); rw [ey] at this; cases this; exact ry⟩⟩
theorem jok_tup {W : Wd} {ρ : List Addr} {u : U} {a : Addr} (ru : RV ρ u (.ref a)) : JOk W ρ (Itt W.K a) (nxOf fun m => seqT m u) := by
  intro ρ' m H i p r
  unfold nxOf
  dsimp only
  cases e : seqT m u with
  | none => exact ⟨fun h => (nomatch h), fun _ _ h => (nomatch h)⟩
  | some xs =>
    obtain ⟨a', vs, ea, hs, rv⟩ := seqT_inv r e (RV.mono p ru)
    cases ea
    simp only
    cases e2 : xs[i]? with
    | none =>
      refine ⟨fun _ => ⟨vs, hs, ?_⟩, fun _ _ h => (nomatch h)⟩
      rw [← Paired.length rv]
      exact List.getElem?_eq_none_iff.mp e2
    | some x =>
      obtain ⟨y, ey, ry⟩ := Paired.get rv e2
      refine ⟨fun h => (nomatch h), fun x' m' h => ?_⟩
      cases h
      exact ⟨⟨vs, y, hs, ey⟩, fun v H' ⟨eH, q⟩ => ⟨ρ', List.prefix_refl _, by rw [eH]; exact r, by have := q vs hs; rw [ey] at this; cases this; exact ry⟩⟩
section
variable {CA : Cd} {X : Cx} {tg e a b c : Expr} {es : List Expr} {te : TE} {fe fa : XE} {ta : TA} {fr : XA} {p pos tpos : Pos}
def tSeq (K : PySem.W.Frag) (te : TE) : TI := fun σ H R => iList K te σ H R ∨ iTup K te σ H R
theorem si_seq (he : SE CA X e te fe) : SIt CA X tg e (tSeq X.K te) (xSeq fe) := ⟨PI.or (pi_list he.pe) (pi_tup he.pe), by
  intro s m nx m' h ρ σ H Rr r rs q
  obtain ⟨u, m1, e1, h⟩ := bd_inv h
  cases e2 : seqL m1 u with
  | some xs =>
    simp only [e2] at h
    cases h
    refine .inl (he.so s m u _ e1 ρ σ H _ r rs fun ρ1 v1 H1 p1 r1 rv1 => ?_)
    obtain ⟨a, vs, ea, hs, rv⟩ := seqL_inv r1 e2 rv1
    subst ea
    exact ⟨a, rfl, ⟨vs, .inl hs⟩, q ρ1 _ H1 p1 r1 (jok_list rv1)⟩
  | none =>
    simp only [e2] at h
    cases e3 : seqT m1 u with
    | none => simp only [e3] at h; cases h
    | some xs =>
      simp only [e3] at h
      cases h
      refine .inr (he.so s m u _ e1 ρ σ H _ r rs fun ρ1 v1 H1 p1 r1 rv1 => ?_)
      obtain ⟨a, vs, ea, hs, rv⟩ := seqT_inv r1 e3 rv1
      subst ea
      exact ⟨a, rfl, ⟨vs, hs⟩, q ρ1 _ H1 p1 r1 (jok_tup rv1)⟩⟩
/-- for x in range(n), range(i, n) -/
def nxRng (lo : Int) (n : Nat) : Nxt := fun i m => cond (Nat.ble n i) (some none) (some (some (.int (lo + i), m)))
theorem jok_rng {W : Wd} {ρ : List Addr} {lo : Int} {n : Nat} : JOk W ρ (Itr lo n) (nxRng lo n) := by
  intro ρ' m H i p r
  unfold nxRng
  cases e : Nat.ble n i with
  | true => exact ⟨fun _ => Nat.le_of_ble_eq_true e, fun _ _ h => (nomatch h)⟩
  | false =>
    refine ⟨fun h => (nomatch h), fun x m' h => ?_⟩
    cases h
    refine ⟨?_, fun v H' ⟨eH, ev⟩ => ⟨ρ', List.prefix_refl _, by rw [eH]; exact r, ev⟩⟩
    exact Nat.lt_of_not_le fun z => by rw [Nat.ble_eq_true_of_le z] at e; cases e
def in62 (j : Int) : Bool := decide (-(2 ^ 62) ≤ j) && decide (j < 2 ^ 62)
theorem in62_ok {j : Int} (h : in62 j = true) : -(2 ^ 62) ≤ j ∧ j < 2 ^ 62 := let ⟨a, b⟩ := Bool.and_eq_true_iff.mp h; ⟨of_decide_eq_true a, of_decide_eq_true b⟩
def xRng1 (fr : XA) : XI := fun s m => bd (fr s m) fun us m1 => match us with
  | [.int j] => cond (in62 j) (some (nxRng 0 j.toNat, m1)) none
  | _ => none
theorem si_rng1 (hm : X.mg "range" = none) (ha : SA CA X [a] ta fr) (hg : Gl X "range" := by rfl) (hs : starEach [a] X.env = [(false, eval a X.env)] := by rfl) : SIt CA X tg (.Call (.Name "range" p) [a] [] pos) (iRng1 ta) (xRng1 fr) := ⟨pi_range1 hg hm ha.pe hs, by
  intro s m nx m' h ρ σ H Rr r rs q
  obtain ⟨us, m1, e1, h⟩ := bd_inv h
  refine ha.so s m us m1 e1 ρ σ H _ r rs fun ρ1 vs H1 p1 r1 rv1 => ?_
  match us, h, rv1 with
  | [.int j], h, .cons rj .nil =>
    obtain ⟨b, h⟩ := cond_inv h
    cases h
    cases rj
    obtain ⟨b1, b2⟩ := in62_ok b
    exact ⟨j, rfl, b1, b2, q ρ1 _ H1 p1 r1 jok_rng⟩⟩
def xRng2 (fr : XA) : XI := fun s m => bd (fr s m) fun us m1 => match us with
  | [.int i, .int j] => cond (in62 i && in62 j) (some (nxRng i (j - i).toNat, m1)) none
  | _ => none
theorem si_rng2 (hm : X.mg "range" = none) (ha : SA CA X [a, b] ta fr) (hg : Gl X "range" := by rfl) (hs : starEach [a, b] X.env = [(false, eval a X.env), (false, eval b X.env)] := by rfl) (hs2 : starEach [b] X.env = [(false, eval b X.env)] := by rfl) :
    SIt CA X tg (.Call (.Name "range" p) [a, b] [] pos) (iRng2 ta) (xRng2 fr) := ⟨pi_range2 hg hm ha.pe hs hs2, by
  intro s m nx m' h ρ σ H Rr r rs q
  obtain ⟨us, m1, e1, h⟩ := bd_inv h
  refine ha.so s m us m1 e1 ρ σ H _ r rs fun ρ1 vs H1 p1 r1 rv1 => ?_
  match us, h, rv1 with
  | [.int i, .int j], h, .cons ri (.cons rj .nil) =>
    obtain ⟨b, h⟩ := cond_inv h
    cases h
    cases rj
    cases ri
    obtain ⟨b, b'⟩ := Bool.and_eq_true_iff.mp b
    obtain ⟨b1, b2⟩ := in62_ok b
    obtain ⟨b3, b4⟩ := in62_ok b'
    exact ⟨i, j, rfl, ⟨b1, b2, b3, b4⟩, q ρ1 _ H1 p1 r1 jok_rng⟩⟩
/-- range(i, j, -1) -/
def nxDown (lo : Int) (n : Nat) : Nxt := fun i m => cond (Nat.ble n i) (some none) (some (some (.int (lo - i), m)))
theorem jok_down {W : Wd} {ρ : List Addr} {lo : Int} {n : Nat} : JOk W ρ (Itc lo (-1) n) (nxDown lo n) := by
  intro ρ' m H i p r
  unfold nxDown
  cases e : Nat.ble n i with
  | true => exact ⟨fun _ => Nat.le_of_ble_eq_true e, fun _ _ h => (nomatch h)⟩
  | false =>
    refine ⟨fun h => (nomatch h), fun x m' h => ?_⟩
    cases h
    refine ⟨?_, fun v H' ⟨eH, ev⟩ => ⟨ρ', List.prefix_refl _, by rw [eH]; exact r, by rw [ev]; show V.int _ = V.int _; congr 1; omega⟩⟩
    exact Nat.lt_of_not_le fun z => by rw [Nat.ble_eq_true_of_le z] at e; cases e
def xDown (fr : XA) : XI := fun s m => bd (fr s m) fun us m1 => match us with
  | [.int i, .int j, .int c] => cond (in62 i && in62 j && decide (c = -1)) (some (nxDown i (i - j).toNat, m1)) none
  | _ => none
theorem si_down (hm : X.mg "range" = none) (ha : SA CA X [a, b, c] ta fr) (hg : Gl X "range" := by rfl)
    (hs : starEach [a, b, c] X.env = (false, eval a X.env) :: starEach [b, c] X.env := by rfl) (hpl : (backTo pos (starEach [b, c] X.env)).any (·.1) = false := by rfl) :
    SIt CA X tg (.Call (.Name "range" p) [a, b, c] [] pos) (iRng3 ta) (xDown fr) := ⟨pi_range3 hg hm ha.pe hs hpl, by
  intro s m nx m' h ρ σ H Rr r rs q
  obtain ⟨us, m1, e1, h⟩ := bd_inv h
  refine ha.so s m us m1 e1 ρ σ H _ r rs fun ρ1 vs H1 p1 r1 rv1 => ?_
  match us, h, rv1 with
  | [.int i, .int j, .int c], h, .cons ri (.cons rj (.cons rc .nil)) =>
    obtain ⟨b, h⟩ := cond_inv h
    cases h
    cases rj
    cases ri
    cases rc
    obtain ⟨b, hc⟩ := Bool.and_eq_true_iff.mp b
    obtain ⟨b, b'⟩ := Bool.and_eq_true_iff.mp b
    obtain ⟨b1, b2⟩ := in62_ok b
    obtain ⟨b3, b4⟩ := in62_ok b'
    have hc := of_decide_eq_true hc
    subst hc
    exact ⟨i, j, -1, (i - j).toNat, rfl, RgC.neg b1 b2 b3 b4, q ρ1 _ H1 p1 r1 jok_down⟩⟩
/-- the signs of a text -/
def nxStr (x : Str) : Nxt := fun i m => match x.cps[i]? with
  | some c => some (some (.str ⟨#[c]⟩, m))
  | none => some none
theorem jok_str {W : Wd} {ρ : List Addr} {x : Str} : JOk W ρ (Its x) (nxStr x) := by
  intro ρ' m H i p r
  unfold nxStr
  cases e : x.cps[i]? with
  | none => exact ⟨fun _ => Array.getElem?_eq_none_iff.mp e, fun _ _ h => (nomatch h)⟩
  | some c =>
    refine ⟨fun h => (nomatch h), fun y m' h => ?_⟩
    cases h
    refine ⟨(Array.getElem?_eq_some_iff.mp e).1, fun v H' ⟨eH, c', ec, ev⟩ => ⟨ρ', List.prefix_refl _, by rw [eH]; exact r, ?_⟩⟩
    rw [e] at ec
    cases ec
    exact ev
def xStrI (fa : XE) : XI := fun s m => bd (fa s m) fun u m1 => match u with
  | .str x => some (nxStr x, m1)
  | _ => none
theorem si_str (he : SE CA X e te fe) : SIt CA X tg e (iStr te) (xStrI fe) := ⟨pi_str he.pe, by
  intro s m nx m' h ρ σ H Rr r rs q
  obtain ⟨u, m1, e1, h⟩ := bd_inv h
  cases u with
  | str x =>
    cases h
    exact he.so s m _ _ e1 ρ σ H _ r rs fun ρ1 v1 H1 p1 r1 rv1 => ⟨x, rv1, q ρ1 _ H1 p1 r1 jok_str⟩
  | _ => cases h⟩
/-- enumerate -/
def nxEn (f : Mem → Option (List U)) : Nxt := fun i m => match f m with
  | some xs => match xs[i]? with
    | some x => cond (Nat.blt m.n most) (some (some (.ref m.n, m.new (.tup [.int i, x])))) none
    | none => some none
  | none => none
theorem jok_en {W : Wd} {ρ : List Addr} {u : U} {a : Addr} (ru : RV ρ u (.ref a)) : JOk W ρ (Ite W.K a) (nxEn fun m => seqL m u) := by
  intro ρ' m H i p r
  unfold nxEn
  dsimp only
  cases e : seqL m u with
  | none => exact ⟨fun h => (nomatch h), fun _ _ h => (nomatch h)⟩
  | some xs =>
    obtain ⟨a', vs, ea, hs, rv⟩ := seqL_inv r e (RV.mono p ru)
    cases ea
    simp only
    cases e2 : xs[i]? with
    | none =>
      refine ⟨fun _ => ⟨vs, .inl hs, ?_⟩, fun _ _ h => (nomatch h)⟩
      rw [← Paired.length rv]
      exact List.getElem?_eq_none_iff.mp e2
    | some x =>
      obtain ⟨y, ey, ry⟩ := Paired.get rv e2
      cases hl : Nat.blt m.n most with
      | false => exact ⟨fun h => (nomatch h), fun _ _ h => (nomatch h)⟩
      | true =>
        refine ⟨fun h => (nomatch h), fun x' m' h => ?_⟩
        cases h
        refine ⟨⟨vs, y, .inl hs, ey⟩, fun v H' ⟨T, x2, ev, hT, eH, q⟩ => ?_⟩
        have := q vs (.inl hs)
        rw [ey] at this
        cases this
        subst ev
        subst eH
        refine ⟨ρ' ++ [T], pre_snoc ρ' T, r.new hT (Nat.lt_of_succ_le (Nat.le_of_ble_eq_true hl)) ⟨[.int i, y], by rw [upd_same], .cons rfl (.cons (RV.mono (pre_snoc ρ' T) ry) .nil)⟩, T, ?_, rfl⟩
        rw [List.getElem?_append_right (by rw [r.len]; exact Nat.le_refl _), r.len, Nat.sub_self]
        rfl
def xEn (fr : XA) : XI := fun s m => bd (fr s m) fun us m1 => match us with
  | [u] => match seqL m1 u with
    | some _ => some (nxEn fun m => seqL m u, m1)
    | none => none
  | _ => none
theorem si_enum {elts : List Expr} {kk : Nat} (hm : X.mg "enumerate" = none) (ha : SA CA X [e] ta fr) (hg : Gl X "enumerate" := by rfl) (hs : starEach [e] X.env = [(false, eval e X.env)] := by rfl) :
    SIt CA X (.Tuple elts kk tpos) (.Call (.Name "enumerate" p) [e] [] pos) (iEnum X.K ta) (xEn fr) := ⟨pi_enum hg hm ha.pe hs, by
  intro s m nx m' h ρ σ H Rr r rs q
  obtain ⟨us, m1, e1, h⟩ := bd_inv h
  refine ha.so s m us m1 e1 ρ σ H _ r rs fun ρ1 vs H1 p1 r1 rv1 => ?_
  match us, h, rv1 with
  | [u], h, .cons ru .nil =>
    cases e2 : seqL m1 u with
    | none => simp only [e2] at h; cases h
    | some xs =>
      simp only [e2] at h
      cases h
      obtain ⟨a, vs, ea, hs, rv⟩ := seqL_inv r1 e2 ru
      subst ea
      exact ⟨a, vs, rfl, .inl hs, q ρ1 _ H1 p1 r1 (jok_en ru)⟩⟩
end

/-! ### for -/
section
variable {CA : Cd} {X : Cx} {tg e iter c : Expr} {body : List Stmt} {wi : TI} {fi : XI} {g : TG} {fg : XG} {ws : List Nat} {tb : TS} {fb : XS} {pos : Pos} {tc : TT} {fc : XT}
/-- the turns from i on, at most n of them -/
def yTurns (nx : Nxt) (fg : XG) (fb : XS) : Nat → Nat → S → Mem → Option (Fl × Mem)
  | 0, _, _, _ => none
  | n + 1, i, s, m => match nx i m with
    | some (some (x, m1)) => match fg x s m1 with
      | some (s2, m2) => match fb s2 m2 with
        | some (.nx s3, m3) => yTurns nx fg fb n (i + 1) s3 m3
        | some (.ct s3, m3) => yTurns nx fg fb n (i + 1) s3 m3
        | some (.bk s3, m3) => some (.nx s3, m3)
        | some (.rt u, m3) => some (.rt u, m3)
        | none => none
      | none => none
    | some none => some (.nx s, m)
    | none => none
def fuel : Nat := 4000
def yFor (fi : XI) (fg : XG) (fb : XS) : XS := fun s m => match fi s m with
  | some (nx, m1) => yTurns nx fg fb fuel 0 s m1
  | none => none
theorem so_for {W : Wd} (hi : SoI W wi fi) (hg : SoH W g fg ws) (hb : SoS W tb fb) : SoS W (tFor wi g tb) (yFor fi fg fb) := by
  intro s m fl m' h ρ σ H D r rs q
  unfold yFor at h
  cases e : fi s m with
  | none => simp only [e] at h; cases h
  | some z =>
    obtain ⟨nx, m1⟩ := z
    simp only [e] at h
    refine hi s m nx m1 e ρ σ H _ r rs fun ρ1 J H1 p1 r1 jo => ?_
    refine ⟨fun i n σ' H' => ∃ ρ' s' m', ρ1 <+: ρ' ∧ R W ρ' m' H' ∧ Rs ρ' s' σ' ∧ ∃ fl2 m2, yTurns nx fg fb n i s' m' = some (fl2, m2) ∧ AfS W ρ' m2 D fl2,
      ⟨fuel, ρ1, s, m1, List.prefix_refl _, r1, rs.mono p1, fl, m', h, AfS.mono p1 q⟩, ?_⟩
    rintro i n σ2 H2 ⟨ρ2, s2, m2, p2, r2, rs2, fl2, m2', h2, q2⟩
    cases n with
    | zero => cases h2
    | succ n =>
      unfold yTurns at h2
      obtain ⟨j1, j2⟩ := jo ρ2 m2 H2 i p2 r2
      cases e3 : nx i m2 with
      | none => simp only [e3] at h2; cases h2
      | some o =>
        cases o with
        | none =>
          simp only [e3] at h2
          cases h2
          exact .inl ⟨j1 e3, q2 ρ2 σ2 H2 (List.prefix_refl _) r2 rs2⟩
        | some z =>
          obtain ⟨x, m3⟩ := z
          simp only [e3] at h2
          obtain ⟨go, yl⟩ := j2 x m3 e3
          refine .inr ⟨go, fun σ' H' => ∃ ρ' s' m', ρ1 <+: ρ' ∧ R W ρ' m' H' ∧ Rs ρ' s' σ' ∧ ∃ fl2 m2, yTurns nx fg fb n (i + 1) s' m' = some (fl2, m2) ∧ AfS W ρ' m2 D fl2, fun σ' H' z => ⟨n, Nat.lt_succ_self n, z⟩, fun v H3 hy => ?_⟩
          obtain ⟨ρ3, p3, r3, rx⟩ := yl v H3 hy
          cases e4 : fg x s2 m3 with
          | none => simp only [e4] at h2; cases h2
          | some z =>
            obtain ⟨s4, m4⟩ := z
            simp only [e4] at h2
            refine hg x s2 m3 s4 m4 e4 ρ3 v σ2 H3 _ r3 (rs2.mono p3) rx fun ρ4 σ4 H4 p4 r4 rs4 _ => ?_
            cases e5 : fb s4 m4 with
            | none => simp only [e5] at h2; cases h2
            | some z =>
              obtain ⟨fl5, m5⟩ := z
              simp only [e5] at h2
              refine hb s4 m4 fl5 m5 e5 ρ4 σ4 H4 _ r4 rs4 ?_
              cases fl5 with
              | nx s5 => exact fun ρ5 σ5 H5 p5 r5 rs5 => ⟨ρ5, s5, m5, p2.trans (p3.trans (p4.trans p5)), r5, rs5, fl2, m2', h2, AfS.mono (p3.trans (p4.trans p5)) q2⟩
              | ct s5 => exact fun ρ5 σ5 H5 p5 r5 rs5 => ⟨ρ5, s5, m5, p2.trans (p3.trans (p4.trans p5)), r5, rs5, fl2, m2', h2, AfS.mono (p3.trans (p4.trans p5)) q2⟩
              | bk s5 =>
                cases h2
                exact fun ρ5 σ5 H5 p5 r5 rs5 => q2 ρ5 σ5 H5 (p3.trans (p4.trans p5)) r5 rs5
              | rt u =>
                cases h2
                exact fun ρ5 v5 H5 p5 r5 rs5 => q2 ρ5 v5 H5 (p3.trans (p4.trans p5)) r5 rs5
theorem ss_for (hp : PassesOwn (model X.prog X.w) X.A X.env X.xe) (hc : X.calm = true) (hi : SIt CA X tg iter wi fi) (hg : SH CA X tg g fg ws) (hb : SSs CA X body tb fb)
    (hs : ∀ x, foldedSetIterable iter X.env x = pure x := by intro _; rfl) : SS CA X (.For tg iter body [] pos) (tFor wi g tb) (yFor fi fg fb) := ⟨ps_for hp hc hi.pe hg.pe hb.pe hs, so_for hi.so hg.so hb.so⟩

/-! ### while -/
def yWhl (fc : XT) (fb : XS) : Nat → S → Mem → Option (Fl × Mem)
  | 0, _, _ => none
  | n + 1, s, m => match fc s m with
    | some (true, m1) => match fb s m1 with
      | some (.nx s3, m3) => yWhl fc fb n s3 m3
      | some (.ct s3, m3) => yWhl fc fb n s3 m3
      | some (.bk s3, m3) => some (.nx s3, m3)
      | some (.rt u, m3) => some (.rt u, m3)
      | none => none
    | some (false, m1) => some (.nx s, m1)
    | none => none
def yWhile (fc : XT) (fb : XS) : XS := fun s m => yWhl fc fb fuel s m
theorem so_while {W : Wd} (hc : SoT W tc fc) (hb : SoS W tb fb) : SoS W (tWhile tc tb) (yWhile fc fb) := by
  intro s m fl m' h ρ σ H D r rs q
  refine ⟨fun n σ' H' => ∃ ρ' s' m', ρ <+: ρ' ∧ R W ρ' m' H' ∧ Rs ρ' s' σ' ∧ ∃ fl2 m2, yWhl fc fb n s' m' = some (fl2, m2) ∧ AfS W ρ' m2 D fl2,
    ⟨fuel, ρ, s, m, List.prefix_refl _, r, rs, fl, m', h, q⟩, ?_⟩
  rintro n σ2 H2 ⟨ρ2, s2, m2, p2, r2, rs2, fl2, m2', h2, q2⟩
  cases n with
  | zero => cases h2
  | succ n =>
    unfold yWhl at h2
    cases e3 : fc s2 m2 with
    | none => simp only [e3] at h2; cases h2
    | some z =>
      obtain ⟨b, m3⟩ := z
      refine hc s2 m2 b m3 e3 ρ2 σ2 H2 _ r2 rs2 fun ρ3 H3 p3 r3 => ?_
      cases b with
      | false =>
        simp only [e3] at h2
        cases h2
        rw [if_neg Bool.false_ne_true]
        exact q2 ρ3 σ2 H3 p3 r3 (rs2.mono p3)
      | true =>
        simp only [e3] at h2
        rw [if_pos rfl]
        refine ⟨fun σ' H' => ∃ ρ' s' m', ρ <+: ρ' ∧ R W ρ' m' H' ∧ Rs ρ' s' σ' ∧ ∃ fl2 m2, yWhl fc fb n s' m' = some (fl2, m2) ∧ AfS W ρ' m2 D fl2, fun σ' H' z => ⟨n, Nat.lt_succ_self n, z⟩, ?_⟩
        cases e5 : fb s2 m3 with
        | none => simp only [e5] at h2; cases h2
        | some z =>
          obtain ⟨fl5, m5⟩ := z
          simp only [e5] at h2
          refine hb s2 m3 fl5 m5 e5 ρ3 σ2 H3 _ r3 (rs2.mono p3) ?_
          cases fl5 with
          | nx s5 => exact fun ρ5 σ5 H5 p5 r5 rs5 => ⟨ρ5, s5, m5, p2.trans (p3.trans p5), r5, rs5, fl2, m2', h2, AfS.mono (p3.trans p5) q2⟩
          | ct s5 => exact fun ρ5 σ5 H5 p5 r5 rs5 => ⟨ρ5, s5, m5, p2.trans (p3.trans p5), r5, rs5, fl2, m2', h2, AfS.mono (p3.trans p5) q2⟩
          | bk s5 =>
            cases h2
            exact fun ρ5 σ5 H5 p5 r5 rs5 => q2 ρ5 σ5 H5 (p3.trans p5) r5 rs5
          | rt u =>
            cases h2
            exact fun ρ5 v5 H5 p5 r5 rs5 => q2 ρ5 v5 H5 (p3.trans p5) r5 rs5
theorem ss_while (hp : PassesOwn (model X.prog X.w) X.A X.env X.xe) (hc : ST CA X c tc fc) (hb : SSs CA X body tb fb) : SS CA X (.While c body [] pos) (tWhile tc tb) (yWhile fc fb) := ⟨ps_while hp hc.pe hb.pe, so_while hc.so hb.so⟩
end
end Sh
end

noncomputable section
namespace Sh
open PySem PySem.Spec PyProof.Rows L2

/-! ### enumerate(tuple) -/
theorem meets_enumT (l : Addr) (items : Array Value) (n : Nat) (dct : Option Addr) (sl : Array (Option Value)) :
    Meets (Builtin.«enumerate.__new__» ⟨[.type "enumerate", .ref l], []⟩) (fun _ R s => s.heap.get? l = some { cls := .type "tuple", dict := dct, data := .seq items n, slots := sl } ∧
      R (.ok (.ret (.ref (s.heap.push { cls := .type "tuple_iterator", data := .fields #[.ref l, .int 0 0] }).objs.size)))
        { s with heap := (s.heap.push { cls := .type "tuple_iterator", data := .fields #[.ref l, .int 0 0] }).push { cls := .type "enumerate", data := .fields #[.none, .bool false, .ref s.heap.objs.size, rawInt 0, .none, .none] } }) :=
  .of_wp fun prog w A R s h => by
    obtain ⟨hp, g, d, tk, os⟩ := s; obtain ⟨hl, h⟩ := h
    have hsub := sub_enumerate
    have hL : Heap.IsTuple (Shared.heap ⟨hp, g, d, tk, os⟩) l items := ⟨_, hl, rfl, n, rfl⟩
    wp_walk using wpAny_loadPart' hl
    refine wpAny_stack_any fun st => wpAny_pure ?_
    split
    · rename_i c _ _ _ _ _
      cases (c == Value.type "enumerate")
      · wp_walk using wpAny_loadPart' hl, wpAny_pyIter_tuple hL
        exact ⟨_, rfl, h⟩
      · wp_walk using wpAny_loadPart' hl, wpAny_pyIter_tuple hL
        exact ⟨_, rfl, h⟩
    · wp_walk using wpAny_loadPart' hl, wpAny_pyIter_tuple hL
      exact ⟨_, rfl, h⟩
section
variable {prog : Program} {w : World} {A : Around} {E : Value → Shared → Prop} {s : Shared}
theorem call_enumT {l : Addr} {items : Array Value} {Q : Value → Shared → Prop} (hL : s.heap.IsTuple l items)
    (h : ∀ h', IsEnum h' (s.heap.objs.size + 1) s.heap.objs.size 0 .none → h'.IsTupleIter s.heap.objs.size l 0 → h'.objs.size = s.heap.objs.size + 2 →
      (∀ b o, s.heap.get? b = some o → h'.get? b = some o) → Q (.ref (s.heap.objs.size + 1)) { s with heap := h' }) :
    wpAny (model prog w) A (call (.type "enumerate") [.ref l]) Q E s := by
  obtain ⟨⟨c, dct, dt, sl⟩, hl, hc, n, hd⟩ := hL
  replace hc : c = .type "tuple" := hc
  replace hd : dt = .seq items n := hd
  subst hc hd
  refine callType_new F.called_enumerate (by decide) (F.typeCall_enumerate_1 _) (F.newCall_enumerate_1 _) (fun obj => F.args_object_init_2 obj _) F.entry_enumerate_new
    (meets_enumT l items n dct sl) ⟨hl, ?_⟩
  have hz : (s.heap.push { cls := .type "tuple_iterator", data := .fields #[.ref l, .int 0 0] }).objs.size = s.heap.objs.size + 1 := Heap.size_push ..
  show _ ∧ _
  rw [hz]
  have he : IsEnum ((s.heap.push { cls := .type "tuple_iterator", data := .fields #[.ref l, .int 0 0] }).push
      { cls := .type "enumerate", data := .fields #[.none, .bool false, .ref s.heap.objs.size, rawInt 0, .none, .none] }) (s.heap.objs.size + 1) s.heap.objs.size 0 .none := by
    have := Heap.get?_push_size (s.heap.push { cls := .type "tuple_iterator", data := .fields #[.ref l, .int 0 0] })
      (o := { cls := .type "enumerate", data := .fields #[.none, .bool false, .ref s.heap.objs.size, rawInt 0, .none, .none] }) rfl
    rw [hz] at this; exact this
  refine ⟨⟨_, he, rfl⟩, h _ he ⟨_, Heap.get?_push_of_some _ (Heap.get?_push_size _ rfl), rfl, rfl⟩ (by rw [Heap.size_push, hz]) fun b o x => Heap.get?_push_of_some _ (Heap.get?_push_of_some _ x)⟩
end
section
variable {prog : Program} {w : World} {A : Around} {E : Value → Shared → Prop} {s : Shared}
theorem enumT_end {e it l : Addr} {i : Nat} {items : Array Value} {old : Value} {Q : Option Value → Shared → Prop} (hh : A.handled = none)
    (he : IsEnum s.heap e it i old) (hit : s.heap.IsTupleIter it l i) (hl : s.heap.IsTuple l items) (hx : items[i]? = none)
    (hQ : ∀ h', Heap.ExtBut it s.heap h' → Q none { s with heap := h' }) : wpAny (model prog w) A (pyNext (.ref e)) Q E s := by
  have hT : s.TypeIs (.ref e) "enumerate" := ⟨_, he, rfl⟩
  unfold pyNext
  refine wpAny_bind (wpAny_attempt (wpAny_callSpecial?_slot (name := Str.ofString "__next__") hT F.slot_enumerate_next
    (wpAny_call_entry F.slot_enumerate_next hT F.entry_enumerate_next ?_ (F.args_enumerate_next_1 _))))
  show wpAny _ _ (field (.ref e) 2 >>= _) _ _ _
  refine wpAny_bind (wpAny_field he rfl (x := .ref it) rfl ?_)
  refine wpAny_bind (wpAny_nextOf_tuple_end hh hit hl hx fun h' x he' hx' => ?_)
  obtain ⟨o, ho, hc⟩ := hx'
  refine wpAny_bind (wpAny_isInstance (T := "StopIteration") (b := true) ⟨o, ho, hc⟩ isSubtype_stop ?_)
  exact wpAny_pure (hQ _ he')
end
def IteT (K : PySem.W.Frag) (a : Addr) : It :=
  ⟨fun i H => ∃ (xs : List V) (x : V), SqT K H a xs ∧ xs[i]? = some x, fun i H v H' => ∃ T x, v = .ref T ∧ H T = none ∧ H' = upd H T (.tup [.int (i : Nat), x]) ∧ ∀ xs, SqT K H a xs → xs[i]? = some x, fun i H => ∃ xs : List V, SqT K H a xs ∧ xs.length ≤ i⟩
theorem turn_enumT {P : Program} {w : World} {K : PySem.W.Frag} {elts : List Expr} {kk : Nat} {tpos : Pos} (a e it : Addr) (hea : e ≠ a) (hia : a ≠ it) :
    Turn P w K (.Tuple elts kk tpos) (IteT K a) [e, it] e (fun i h => (∃ old, IsEnum h e it ((i : Nat) : Int) old) ∧ h.IsTupleIter it a i ∧ e ≠ it) where
  mem := by simp
  obj := fun i h st b hb => by
    obtain ⟨⟨old, he⟩, ⟨o, ho, hc, hd⟩, _⟩ := st
    have e' : b = e ∨ b = it := by simpa using hb
    rcases e' with z | z
    · rw [z]; exact ⟨_, he, fun v q => nomatch q⟩
    · rw [z]; exact ⟨o, ho, fun v q => by rw [hd] at q; cases q⟩
  keep := fun i h h' st k => let ⟨⟨old, he⟩, hi, hne⟩ := st; ⟨⟨old, k e (by simp) _ he⟩, hi.at fun o q => k it (by simp) o q, hne⟩
  item := by
    intro X hP hw hK hc i pins s σ H E I hf st hg
    subst hP hw hK
    obtain ⟨⟨old, he⟩, hit, hne⟩ := st
    obtain ⟨xs, x, hq, hx⟩ := hg
    obtain ⟨its, rv, p, hz⟩ := I.tuple hq
    obtain ⟨u, hu, ru⟩ := rv.get hx
    have hel : e < s.heap.objs.size := Heap.lt_size he
    have hil : it < s.heap.objs.size := by obtain ⟨_, q, _⟩ := hit; exact Heap.lt_size q
    have hT : s.heap.IsTuple a its.toArray := p
    have hlt : i < its.toArray.size := by
      rw [List.size_toArray]
      exact (List.getElem?_eq_some_iff.mp hu).1
    refine wpAny_pyNext_enum_itemD (Draws.tuple (prog := X.prog) (w := X.w) (A := X.A.in1) (I.ok.hd hc) it a hia its.toArray) he ⟨hit, hT⟩ hlt hne (by simp [hne, hea]) fun y h' tk hy ho hst hT' hsz hk => ?_
    have ey : y = u := by
      have q : its.toArray[i]? = some y := hy
      rw [show its.toArray[i]? = some u by simpa using hu] at q
      exact (Option.some.inj q).symm
    subst ey
    refine ⟨_, rfl, wpAny_letOwnedTupleGo_enum (s := { s with heap := h', toks := tk + 1 }) ho fun h'' he' sb => ?_⟩
    have hT2 : h''.get? s.heap.objs.size = some { cls := .type "tuple", data := .seq #[.int i tk, y] } := (sb.2 _ (Nat.ne_of_gt hel)).trans hT'
    have new : ObjOk X.prog X.w (upd H s.heap.objs.size (.tup [.int (i : Nat), x])) h'' s.heap.objs.size (.tup [.int (i : Nat), x]) :=
      ⟨by show 2 ≤ sizeLine; decide, [.int i tk, y], .cons ⟨_, rfl⟩ (.cons ru .nil), ⟨_, hT2, rfl, _, rfl⟩⟩
    have I1 : Inv X pins σ (upd H s.heap.objs.size (.tup [.int (i : Nat), x])) { s with heap := h'', toks := tk + 1 } :=
      I.turnedNew (ch := [e, it]) (fun b ob hb q => (sb.2 b (fun z => hb (by simp [z]))).trans (hk b ob (fun z => hb (by simp [z])) (fun z => hb (by simp [z])) q)) hf (Nat.le_refl _) new
    refine ⟨.ref s.heap.objs.size, _, I1, rfl, ⟨_, x, rfl, I.hok.fresh (Nat.le_refl _), rfl, fun ys hy => by rw [I.tuple_inj hy hq]; exact hx⟩, ⟨⟨y, ?_⟩, hst.1.at fun o q => (sb.2 it (Ne.symm hne)).trans q, hne⟩, fun b hb => ?_⟩
    · have e1 : ((i + 1 : Nat) : Int) = (i : Int) + 1 := by omega
      rw [e1]; exact he'
    · have hb' : b < s.heap.objs.size := by
        have e' : b = e ∨ b = it := by simpa using hb
        rcases e' with z | z
        · rw [z]; exact hel
        · rw [z]; exact hil
      rw [upd_ne (Nat.ne_of_lt hb')]
      exact (hf b hb).1
  done := by
    intro X hP hw hK hc i pins s σ H E I hf st hg
    subst hP hw hK
    obtain ⟨⟨old, he⟩, hit, hne⟩ := st
    obtain ⟨xs, hq, hx⟩ := hg
    obtain ⟨its, rv, p, hz⟩ := I.tuple hq
    obtain ⟨f0, f1, f2, f3, f4, f5⟩ := hf it (by simp)
    have hl := rv.length
    have hT : s.heap.IsTuple a its.toArray := p
    exact enumT_end (I.ok.hd hc) he hit hT (by simp; omega) fun h' eb => ⟨rfl, I.turned (t' := s.toks) (fun b o hb q => eb b o hb q) f0 f1 f3 f4 f5⟩
  self := fun A i s Q E st h => let ⟨⟨_, he⟩, _⟩ := st; wpAny_pyIter_enum he h
def iEnumT (K : PySem.W.Frag) (ta : TA) : TI := fun σ H R => ta σ H fun vs H1 => ∃ a xs, vs = [.ref a] ∧ SqT K H1 a xs ∧ R (IteT K a) H1
theorem pi_enumT {X : Cx} {e : Expr} {ta : TA} {p pos tpos : Pos} {elts : List Expr} {kk : Nat} (hg : Gl X "enumerate") (hm : X.mg "enumerate" = none) (ha : PA X [e] ta) (hs : starEach [e] X.env = [(false, eval e X.env)] := by rfl) :
    PI X (.Tuple elts kk tpos) (.Call (.Name "enumerate" p) [e] [] pos) (iEnumT X.K ta) := by
  refine ⟨fun pins s σ H R I h => ?_⟩
  refine Call_ (ld_blt I hg hm boot_enumerate (PyProof.Rows.callWith_type1 (thn (ha.run pos pins s σ H _ I h) fun us s1 ⟨vs, H1, I1, r1, q1⟩ => ?_) hs rfl))
  obtain ⟨a, xs, ex, hq, q⟩ := q1
  subst ex
  cases r1 with
  | cons r rr =>
    cases rr
    cases r
    obtain ⟨its, rv, p', hz⟩ := I1.tuple hq
    have hT : s1.heap.IsTuple a its.toArray := p'
    have hal : a < s1.heap.objs.size := by obtain ⟨o, ho, _⟩ := hT; exact Heap.lt_size ho
    refine call_enumT hT fun h' he hit hsz hk => wpAny_pyIter_enum he ?_
    have I2 : Inv X pins σ H1 { s1 with heap := h' } := I1.kept (t' := s1.toks) hk
    refine ⟨s1.heap.objs.size + 1, [s1.heap.objs.size + 1, s1.heap.objs.size], _, _, H1, rfl, I2, turn_enumT a (s1.heap.objs.size + 1) s1.heap.objs.size (Nat.ne_of_gt (Nat.lt_succ_of_lt hal)) (Nat.ne_of_lt hal), ⟨⟨.none, he⟩, hit, Nat.succ_ne_self _⟩, fun b hb => ?_, q⟩
    have e' : b = s1.heap.objs.size + 1 ∨ b = s1.heap.objs.size := by simpa using hb
    have hle : s1.heap.objs.size ≤ b := by
      rcases e' with z | z
      · rw [z]; exact Nat.le_add_right _ _
      · rw [z]; exact Nat.le_refl _
    exact I1.fpOk hle (I1.hok.fresh hle)
theorem jok_enT {W : Wd} {ρ : List Addr} {u : U} {a : Addr} (ru : RV ρ u (.ref a)) : JOk W ρ (IteT W.K a) (nxEn fun m => seqT m u) := by
  intro ρ' m H i p r
  unfold nxEn
  dsimp only
  cases e : seqT m u with
  | none => exact ⟨fun h => (nomatch h), fun _ _ h => (nomatch h)⟩
  | some xs =>
    obtain ⟨a', vs, ea, hs, rv⟩ := seqT_inv r e (RV.mono p ru)
    cases ea
    simp only
    cases e2 : xs[i]? with
    | none =>
      refine ⟨fun _ => ⟨vs, hs, ?_⟩, fun _ _ h => (nomatch h)⟩
      rw [← Paired.length rv]
      exact List.getElem?_eq_none_iff.mp e2
    | some x =>
      obtain ⟨y, ey, ry⟩ := Paired.get rv e2
      cases hl : Nat.blt m.n most with
      | false => exact ⟨fun h => (nomatch h), fun _ _ h => (nomatch h)⟩
      | true =>
        refine ⟨fun h => (nomatch h), fun x' m' h => ?_⟩
        cases h
        refine ⟨⟨vs, y, hs, ey⟩, fun v H' ⟨T, x2, ev, hT, eH, q⟩ => ?_⟩
        have := q vs hs
        rw [ey] at this
        cases this
        subst ev
        subst eH
        refine ⟨ρ' ++ [T], pre_snoc ρ' T, r.new hT (Nat.lt_of_succ_le (Nat.le_of_ble_eq_true hl)) ⟨[.int i, y], by rw [upd_same], .cons rfl (.cons (RV.mono (pre_snoc ρ' T) ry) .nil)⟩, T, ?_, rfl⟩
        rw [List.getElem?_append_right (by rw [r.len]; exact Nat.le_refl _), r.len, Nat.sub_self]
        rfl
section
variable {CA : Cd} {X : Cx} {e : Expr} {ta : TA} {fr : XA} {p pos tpos : Pos}
def xEnA (fr : XA) : XI := fun s m => bd (fr s m) fun us m1 => match us with
  | [u] => match seqL m1 u with
    | some _ => some (nxEn fun m => seqL m u, m1)
    | none => match seqT m1 u with
      | some _ => some (nxEn fun m => seqT m u, m1)
      | none => none
  | _ => none
theorem si_en {elts : List Expr} {kk : Nat} (hm : X.mg "enumerate" = none) (ha : SA CA X [e] ta fr) (hg : Gl X "enumerate" := by rfl) (hs : starEach [e] X.env = [(false, eval e X.env)] := by rfl) :
    SIt CA X (.Tuple elts kk tpos) (.Call (.Name "enumerate" p) [e] [] pos) (fun σ H R => iEnum X.K ta σ H R ∨ iEnumT X.K ta σ H R) (xEnA fr) := ⟨PI.or (pi_enum hg hm ha.pe hs) (pi_enumT hg hm ha.pe hs), by
  intro s m nx m' h ρ σ H Rr r rs q
  obtain ⟨us, m1, e1, h⟩ := bd_inv h
  match us, h with
  | [], h => cases h
  | _ :: _ :: _, h => cases h
  | [u], h =>
    dsimp only at h
    cases e2 : seqL m1 u with
    | some xs =>
      simp only [e2] at h
      cases h
      refine .inl (ha.so s m _ _ e1 ρ σ H _ r rs fun ρ1 vs H1 p1 r1 rv1 => ?_)
      match rv1 with
      | .cons ru .nil =>
        obtain ⟨a, vs, ea, hs, rv⟩ := seqL_inv r1 e2 ru
        subst ea
        exact ⟨a, vs, rfl, .inl hs, q ρ1 _ H1 p1 r1 (jok_en ru)⟩
    | none =>
      simp only [e2] at h
      cases e3 : seqT m1 u with
      | none => simp only [e3] at h; cases h
      | some xs =>
        simp only [e3] at h
        cases h
        refine .inr (ha.so s m _ _ e1 ρ σ H _ r rs fun ρ1 vs H1 p1 r1 rv1 => ?_)
        match rv1 with
        | .cons ru .nil =>
          obtain ⟨a, vs, ea, hs, rv⟩ := seqT_inv r1 e3 ru
          subst ea
          exact ⟨a, vs, rfl, hs, q ρ1 _ H1 p1 r1 (jok_enT ru)⟩⟩
end
end Sh
end

noncomputable section
namespace Sh
open PySem PySem.Spec PyProof.Rows L2

/-! ### comprehensions -/
def lcGo (nx : Nxt) (fg : XG) (ft : XT) (bf : S → Mem → Option Mem) (s0 : S) : Nat → Nat → Mem → Option Mem
  | 0, _, _ => none
  | n + 1, i, m => match nx i m with
    | some (some (x, m1)) => match fg x s0 m1 with
      | some (s2, m2) => match ft s2 m2 with
        | some (true, m3) => match bf s2 m3 with
          | some m4 => lcGo nx fg ft bf s0 n (i + 1) m4
          | none => none
        | some (false, m3) => lcGo nx fg ft bf s0 n (i + 1) m3
        | none => none
      | none => none
    | some none => some m
    | none => none
/-- the body's reading -/
abbrev TBd := L2.St → Hp → (Hp → Prop) → Prop
theorem lc_turns {W : Wd} {ρ0 : List Addr} {J : It} {nx : Nxt} {g : TG} {fg : XG} {ws vs : List Nat} {tt : TT} {ft : XT} {bf : S → Mem → Option Mem} {B : TBd} {σ : L2.St} {s : S} {Fin : Hp → Prop} {mf : Mem} {n0 : Nat} {m0 : Mem} {ρ1 : List Addr} {H0 : Hp}
    (jo : JOk W ρ0 J nx) (hg : SoH W g fg ws) (hws : ∀ i ∈ ws, i ∈ vs) (ht : SoT W tt ft)
    (hB : ∀ s m m', bf s m = some m' → ∀ ρ σ H (Nx : Hp → Prop), ρ0 <+: ρ → R W ρ m H → Rs ρ s σ → (∀ ρ' H', ρ <+: ρ' → R W ρ' m' H' → Nx H') → B σ H Nx)
    (p : ρ0 <+: ρ1) (r : R W ρ1 m0 H0) (rs : Rs ρ1 s σ) (h : lcGo nx fg ft bf (wipeU s vs) n0 0 m0 = some mf) (qf : ∀ ρ' H', ρ1 <+: ρ' → R W ρ' mf H' → Fin H') :
    ∃ Wv : Nat → Nat → Hp → Prop, (∃ m, Wv 0 m H0) ∧ ∀ i m H, Wv i m H → (J.stop i H ∧ Fin H) ∨ (J.go i H ∧ ∃ Nx : Hp → Prop, (∀ H', Nx H' → ∃ m', m' < m ∧ Wv (i + 1) m' H') ∧
      ∀ x H', J.yld i H x H' → g x (wipe σ vs) H' fun σ2 H2 => wipe σ2 vs = wipe σ vs ∧ tt σ2 H2 fun b H3 => if b = true then B σ2 H3 Nx else Nx H3) := by
  refine ⟨fun i n H => ∃ ρ' m', ρ1 <+: ρ' ∧ R W ρ' m' H ∧ lcGo nx fg ft bf (wipeU s vs) n i m' = some mf, ⟨n0, ρ1, m0, List.prefix_refl _, r, h⟩, ?_⟩
  rintro i n H ⟨ρ2, m2, p2, r2, h2⟩
  cases n with
  | zero => cases h2
  | succ n =>
    unfold lcGo at h2
    obtain ⟨j1, j2⟩ := jo ρ2 m2 H i (p.trans p2) r2
    cases e3 : nx i m2 with
    | none => simp only [e3] at h2; cases h2
    | some o =>
      cases o with
      | none =>
        simp only [e3] at h2
        cases h2
        exact .inl ⟨j1 e3, qf ρ2 H p2 r2⟩
      | some z =>
        obtain ⟨x, m3⟩ := z
        simp only [e3] at h2
        obtain ⟨go, yl⟩ := j2 x m3 e3
        refine .inr ⟨go, fun H => ∃ ρ' m', ρ1 <+: ρ' ∧ R W ρ' m' H ∧ lcGo nx fg ft bf (wipeU s vs) n (i + 1) m' = some mf, fun H' z => ⟨n, Nat.lt_succ_self n, z⟩, fun v H3 hy => ?_⟩
        obtain ⟨ρ3, p3, r3, rx⟩ := yl v H3 hy
        cases e4 : fg x (wipeU s vs) m3 with
        | none => simp only [e4] at h2; cases h2
        | some z =>
          obtain ⟨s4, m4⟩ := z
          simp only [e4] at h2
          refine hg x (wipeU s vs) m3 s4 m4 e4 ρ3 v (wipe σ vs) H3 _ r3 (Rs.wipe (rs.mono (p2.trans p3)) vs) rx fun ρ4 σ4 H4 p4 r4 rs4 w4 => ⟨wipe_sets w4 hws, ?_⟩
          cases e5 : ft s4 m4 with
          | none => simp only [e5] at h2; cases h2
          | some z =>
            obtain ⟨b, m5⟩ := z
            simp only [e5] at h2
            refine ht s4 m4 b m5 e5 ρ4 σ4 H4 _ r4 rs4 fun ρ5 H5 p5 r5 => ?_
            cases b with
            | false =>
              rw [if_neg Bool.false_ne_true]
              exact ⟨ρ5, m5, p2.trans (p3.trans (p4.trans p5)), r5, h2⟩
            | true =>
              rw [if_pos rfl]
              cases e6 : bf s4 m5 with
              | none => simp only [e6] at h2; cases h2
              | some m6 =>
                simp only [e6] at h2
                exact hB s4 m5 m6 e6 ρ5 σ4 H5 _ (p.trans (p2.trans (p3.trans (p4.trans p5)))) r5 (rs4.mono p5) fun ρ6 H6 p6 r6 => ⟨ρ6, m6, p2.trans (p3.trans (p4.trans (p5.trans p6))), r6, h2⟩
def apB (fe : XE) (D : Nat) : S → Mem → Option Mem := fun s m => match fe s m with
  | some (y, m4) => match m4.get D with
    | some (.lst acc) => cond (Nat.ble acc.length 1000000) (some (m4.put D (.lst (acc ++ [y])))) none
    | _ => none
  | none => none
theorem apB_ok {W : Wd} {te : TE} {fe : XE} {D : Nat} {Da : Addr} {ρ0 : List Addr} (he : SoE W te fe) (hD : ρ0[D]? = some Da) : ∀ s m m', apB fe D s m = some m' → ∀ ρ σ H (Nx : Hp → Prop), ρ0 <+: ρ → R W ρ m H → Rs ρ s σ → (∀ ρ' H', ρ <+: ρ' → R W ρ' m' H' → Nx H') →
    te σ H fun y H4 => ∃ acc, H4 Da = some (.lst acc) ∧ acc.length < sizeLine ∧ Nx (upd H4 Da (.lst (acc ++ [y]))) := by
  intro s m m' h ρ σ H Nx p r rs q
  unfold apB at h
  cases e : fe s m with
  | none => simp only [e] at h; cases h
  | some z =>
    obtain ⟨y, m4⟩ := z
    simp only [e] at h
    refine he s m y m4 e ρ σ H _ r rs fun ρ1 v H1 p1 r1 rv => ?_
    cases g : m4.get D with
    | none => simp only [g] at h; cases h
    | some o =>
      cases o with
      | lst acc =>
        simp only [g] at h
        obtain ⟨hl, h⟩ := cond_inv h
        cases h
        have hD' := at_mono (p.trans p1) hD
        obtain ⟨vs, e', r'⟩ := r1.at hD' g
        refine ⟨vs, e', ?_, q ρ1 _ p1 (r1.putLst hD' g e' (Paired.append r' (.cons rv .nil)))⟩
        rw [← Paired.length r']
        exact line_of (Nat.le_of_ble_eq_true hl)
      | _ => simp only [g] at h; cases h
def xLc (fi : XI) (fg : XG) (ft : XT) (fe : XE) (vs : List Nat) : XE := fun s m => match fi s m with
  | some (nx, m1) => cond (Nat.blt m1.n most) (match lcGo nx fg ft (apB fe m1.n) (wipeU s vs) fuel 0 (m1.new (.lst [])) with
    | some mf => some (.ref m1.n, mf)
    | none => none) none
  | none => none
theorem at_new {W : Wd} {ρ : List Addr} {m : Mem} {H : Hp} (r : R W ρ m H) {D : Addr} : (ρ ++ [D])[m.n]? = some D := by
  rw [List.getElem?_append_right (by rw [r.len]; exact Nat.le_refl _), r.len, Nat.sub_self]
  rfl
theorem blt_lt {a b : Nat} (h : Nat.blt a b = true) : a < b := Nat.lt_of_succ_le (Nat.le_of_ble_eq_true h)
theorem JOk.mono {W : Wd} {ρ ρ' : List Addr} {J : It} {nx : Nxt} (p : ρ <+: ρ') (j : JOk W ρ J nx) : JOk W ρ' J nx := fun ρ2 m H i p2 r => j ρ2 m H i (p.trans p2) r
theorem so_lc {W : Wd} {wi : TI} {fi : XI} {g : TG} {fg : XG} {tt : TT} {ft : XT} {te : TE} {fe : XE} {ws vs : List Nat} (hi : SoI W wi fi) (hg : SoH W g fg ws) (hws : ∀ i ∈ ws, i ∈ vs) (ht : SoT W tt ft) (he : SoE W te fe) : SoE W (tLc wi g tt te vs) (xLc fi fg ft fe vs) := by
  intro s m u m' h ρ σ H Q r rs q
  unfold xLc at h
  cases e : fi s m with
  | none => simp only [e] at h; cases h
  | some z =>
    obtain ⟨nx, m1⟩ := z
    simp only [e] at h
    obtain ⟨hl, h⟩ := cond_inv h
    cases e2 : lcGo nx fg ft (apB fe m1.n) (wipeU s vs) fuel 0 (m1.new (.lst [])) with
    | none => simp only [e2] at h; cases h
    | some mf =>
      simp only [e2] at h
      cases h
      refine hi s m nx m1 e ρ σ H _ r rs fun ρ1 J H1 p1 r1 jo D hD => ?_
      have r2 := r1.new (o := .lst []) (u := .lst []) hD (blt_lt hl) ⟨[], upd_same, .nil⟩
      have hat := at_new r1 (D := D)
      have pd := pre_snoc ρ1 D
      exact lc_turns (B := fun σ H Nx => te σ H fun y H4 => ∃ acc, H4 D = some (.lst acc) ∧ acc.length < sizeLine ∧ Nx (upd H4 D (.lst (acc ++ [y])))) (Fin := fun H => Q (.ref D) H) (jo.mono pd) hg hws ht (apB_ok he hat) (List.prefix_refl _) r2 (rs.mono (p1.trans pd)) e2
        fun ρ' H' p' r' => q ρ' _ H' (p1.trans (pd.trans p')) r' ⟨D, at_mono p' hat, rfl⟩
def inB (fi : XI) (fg : XG) (ft : XT) (bf : S → Mem → Option Mem) (vs : List Nat) : S → Mem → Option Mem := fun s m => match fi s m with
  | some (nx, m1) => lcGo nx fg ft bf (wipeU s vs) fuel 0 m1
  | none => none
def xLc2 (fi : XI) (fg : XG) (ft : XT) (fi1 : XI) (fg1 : XG) (ft1 : XT) (fe : XE) (vs vs1 : List Nat) : XE := fun s m => match fi s m with
  | some (nx, m1) => cond (Nat.blt m1.n most) (match lcGo nx fg ft (inB fi1 fg1 ft1 (apB fe m1.n) vs1) (wipeU s vs) fuel 0 (m1.new (.lst [])) with
    | some mf => some (.ref m1.n, mf)
    | none => none) none
  | none => none
theorem so_lc2 {W : Wd} {wi wi1 : TI} {fi fi1 : XI} {g g1 : TG} {fg fg1 : XG} {tt tt1 : TT} {ft ft1 : XT} {te : TE} {fe : XE} {ws vs ws1 vs1 : List Nat} (hi : SoI W wi fi) (hg : SoH W g fg ws) (hws : ∀ i ∈ ws, i ∈ vs) (ht : SoT W tt ft)
    (hi1 : SoI W wi1 fi1) (hg1 : SoH W g1 fg1 ws1) (hws1 : ∀ i ∈ ws1, i ∈ vs1) (ht1 : SoT W tt1 ft1) (he : SoE W te fe) : SoE W (tLc2 wi g tt wi1 g1 tt1 te vs vs1) (xLc2 fi fg ft fi1 fg1 ft1 fe vs vs1) := by
  intro s m u m' h ρ σ H Q r rs q
  unfold xLc2 at h
  cases e : fi s m with
  | none => simp only [e] at h; cases h
  | some z =>
    obtain ⟨nx, m1⟩ := z
    simp only [e] at h
    obtain ⟨hl, h⟩ := cond_inv h
    cases e2 : lcGo nx fg ft (inB fi1 fg1 ft1 (apB fe m1.n) vs1) (wipeU s vs) fuel 0 (m1.new (.lst [])) with
    | none => simp only [e2] at h; cases h
    | some mf =>
      simp only [e2] at h
      cases h
      refine hi s m nx m1 e ρ σ H _ r rs fun ρ1 J H1 p1 r1 jo D hD => ?_
      have r2 := r1.new (o := .lst []) (u := .lst []) hD (blt_lt hl) ⟨[], upd_same, .nil⟩
      have hat := at_new r1 (D := D)
      have pd := pre_snoc ρ1 D
      refine lc_turns (B := fun σ2 H3 Nx => wi1 σ2 H3 fun J1 H4 => ∃ W1 : Nat → Nat → Hp → Prop, (∃ m, W1 0 m H4) ∧ ∀ j k H, W1 j k H →
          (J1.stop j H ∧ Nx H) ∨ (J1.go j H ∧ ∃ Nx1 : Hp → Prop, (∀ H', Nx1 H' → ∃ k', k' < k ∧ W1 (j + 1) k' H') ∧ ∀ x H', J1.yld j H x H' → g1 x (wipe σ2 vs1) H' fun σ3 H5 => wipe σ3 vs1 = wipe σ2 vs1 ∧ tt1 σ3 H5 fun b H6 =>
            if b = true then te σ3 H6 fun y H7 => ∃ acc, H7 D = some (.lst acc) ∧ acc.length < sizeLine ∧ Nx1 (upd H7 D (.lst (acc ++ [y]))) else Nx1 H6)) (Fin := fun H => Q (.ref D) H)
        (jo.mono pd) hg hws ht (fun s3 m3 m3' h3 ρ3 σ3 H3 Nx p3 r3 rs3 q3 => ?_) (List.prefix_refl _) r2 (rs.mono (p1.trans pd)) e2
        fun ρ' H' p' r' => q ρ' _ H' (p1.trans (pd.trans p')) r' ⟨D, at_mono p' hat, rfl⟩
      unfold inB at h3
      cases e3 : fi1 s3 m3 with
      | none => simp only [e3] at h3; cases h3
      | some z =>
        obtain ⟨nx1, m4⟩ := z
        simp only [e3] at h3
        refine hi1 s3 m3 nx1 m4 e3 ρ3 σ3 H3 _ r3 rs3 fun ρ4 J1 H4 p4 r4 jo1 => ?_
        exact lc_turns (B := fun σ H Nx => te σ H fun y H4 => ∃ acc, H4 D = some (.lst acc) ∧ acc.length < sizeLine ∧ Nx (upd H4 D (.lst (acc ++ [y])))) (Fin := Nx) jo1 hg1 hws1 ht1
          (apB_ok he (at_mono (p3.trans p4) hat)) (List.prefix_refl _) r4 (rs3.mono p4) h3 fun ρ5 H5 p5 r5 => q3 ρ5 H5 (p4.trans p5) r5
def dcB (fk fv : XE) (D : Nat) : S → Mem → Option Mem := fun s m => match fk s m with
  | some (y, m4) => match fv s m4 with
    | some (z, m5) => match m5.get D with
      | some (.dK kvs) => match keyU y with
        | some k => cond (Nat.ble kvs.length 1000000) (some (m5.put D (.dK (putU kvs k z)))) none
        | none => none
      | _ => none
    | none => none
  | none => none
theorem dcB_ok {W : Wd} {tk tv : TE} {fk fv : XE} {D : Nat} {Da : Addr} {ρ0 : List Addr} (hk : SoE W tk fk) (hv : SoE W tv fv) (hD : ρ0[D]? = some Da) : ∀ s m m', dcB fk fv D s m = some m' → ∀ ρ σ H (Nx : Hp → Prop), ρ0 <+: ρ → R W ρ m H → Rs ρ s σ → (∀ ρ' H', ρ <+: ρ' → R W ρ' m' H' → Nx H') →
    tk σ H fun y H4 => tv σ H4 fun z H5 => ∃ kvs k, y = kV k ∧ H5 Da = some (.dK kvs) ∧ kvs.length < sizeLine ∧ Nx (upd H5 Da (.dK (putK kvs k z))) := by
  intro s m m' h ρ σ H Nx p r rs q
  unfold dcB at h
  cases e : fk s m with
  | none => simp only [e] at h; cases h
  | some z =>
    obtain ⟨y, m4⟩ := z
    simp only [e] at h
    refine hk s m y m4 e ρ σ H _ r rs fun ρ1 v H1 p1 r1 rv => ?_
    cases e2 : fv s m4 with
    | none => simp only [e2] at h; cases h
    | some z =>
      obtain ⟨z, m5⟩ := z
      simp only [e2] at h
      refine hv s m4 z m5 e2 ρ1 σ H1 _ r1 (rs.mono p1) fun ρ2 v2 H2 p2 r2 rv2 => ?_
      cases g : m5.get D with
      | none => simp only [g] at h; cases h
      | some o =>
        cases o with
        | dK kvs =>
          simp only [g] at h
          cases e3 : keyU y with
          | none => simp only [e3] at h; cases h
          | some k =>
            simp only [e3] at h
            obtain ⟨hl, h⟩ := cond_inv h
            cases h
            have hD' := at_mono (p.trans (p1.trans p2)) hD
            obtain ⟨ws, e', r'⟩ := r2.at hD' g
            refine ⟨ws, k, keyU_ok e3 rv, e', ?_, q ρ2 _ (p1.trans p2) (r2.putK hD' g e' (putU_ok rv2 r'))⟩
            rw [← Paired.length r']
            exact line_of (Nat.le_of_ble_eq_true hl)
        | _ => simp only [g] at h; cases h
def xDc (fi : XI) (fg : XG) (ft : XT) (fk fv : XE) (vs : List Nat) : XE := fun s m => match fi s m with
  | some (nx, m1) => cond (Nat.blt m1.n most) (match lcGo nx fg ft (dcB fk fv m1.n) (wipeU s vs) fuel 0 (m1.new (.dK [])) with
    | some mf => some (.ref m1.n, mf)
    | none => none) none
  | none => none
theorem so_dc {W : Wd} {wi : TI} {fi : XI} {g : TG} {fg : XG} {tt : TT} {ft : XT} {tk tv : TE} {fk fv : XE} {ws vs : List Nat} (hi : SoI W wi fi) (hg : SoH W g fg ws) (hws : ∀ i ∈ ws, i ∈ vs) (ht : SoT W tt ft) (hk : SoE W tk fk) (hv : SoE W tv fv) : SoE W (tDc wi g tt tk tv vs) (xDc fi fg ft fk fv vs) := by
  intro s m u m' h ρ σ H Q r rs q
  unfold xDc at h
  cases e : fi s m with
  | none => simp only [e] at h; cases h
  | some z =>
    obtain ⟨nx, m1⟩ := z
    simp only [e] at h
    obtain ⟨hl, h⟩ := cond_inv h
    cases e2 : lcGo nx fg ft (dcB fk fv m1.n) (wipeU s vs) fuel 0 (m1.new (.dK [])) with
    | none => simp only [e2] at h; cases h
    | some mf =>
      simp only [e2] at h
      cases h
      refine hi s m nx m1 e ρ σ H _ r rs fun ρ1 J H1 p1 r1 jo D hD => ?_
      have r2 := r1.new (o := .dK []) (u := .dK []) hD (blt_lt hl) ⟨[], upd_same, .nil⟩
      have hat := at_new r1 (D := D)
      have pd := pre_snoc ρ1 D
      exact lc_turns (B := fun σ H Nx => tk σ H fun y H4 => tv σ H4 fun z H5 => ∃ kvs k, y = kV k ∧ H5 D = some (.dK kvs) ∧ kvs.length < sizeLine ∧ Nx (upd H5 D (.dK (putK kvs k z)))) (Fin := fun H => Q (.ref D) H) (jo.mono pd) hg hws ht (dcB_ok hk hv hat) (List.prefix_refl _) r2 (rs.mono (p1.trans pd)) e2
        fun ρ' H' p' r' => q ρ' _ H' (p1.trans (pd.trans p')) r' ⟨D, at_mono p' hat, rfl⟩
/-! the tests of a clause -/
structure STs (CA : Cd) (X : Cx) (es : List Expr) (t : TT) (f : XT) : Prop where
  pe : PTs X es t
  so : SoT (wd CA X) t f
def xYes : XT := fun _ m => some (true, m)
section
variable {CA : Cd} {X : Cx} {c elt kx vx tg iter tg1 iter1 : Expr} {ifs ifs1 : List Expr} {t tt tt1 : TT} {f ft ft1 : XT} {wi wi1 : TI} {fi fi1 : XI} {g g1 : TG} {fg fg1 : XG} {ws ws1 vs1 : List Nat} {te tk tv : TE} {fe fk fv : XE} {scope : Scope} {own : List (Str × Nat)} {pos spos py : Pos} {i : Nat} {y : Str}
theorem sts_nil : STs CA X [] tYes xYes := ⟨pts_nil, fun s m k m' h ρ σ H Q r rs q => by
  cases h
  exact q ρ H (List.prefix_refl ρ) r⟩
theorem sts_one (h : ST CA X c t f) : STs CA X [c] t f := ⟨pts_one h.pe, h.so⟩
/-- a context of the block -/
abbrev Blk (X : Cx) (scope : Scope) (P : Cx → Prop) : Prop := ∀ (s : Shared) (H : Hp) (C : Addr) (cl : List (Str × Addr)) (fp : List Addr), P (X.blk s H scope (compEnvC scope cl C X.env) fp)
theorem Blk.one {P : Cx → Prop} {q : Prop} (h : Blk X scope P) (k : ∀ X', X'.K = X.K → P X' → q) : q := k (X.blk X.s_0 X.H_0 scope (compEnvC scope [] 0 X.env) []) rfl (h _ _ _ _ _)
theorem se_lc (hc : X.calm = true) (hN : X.N.Nodup) (hi : SIt CA X tg iter wi fi) (ok : BlkOk X.N X.env.scope scope own) (hws : ws.all (fun i => (own.map (·.2)).contains i) = true)
    (hg : Blk X scope fun X' => SH CA X' tg g fg ws) (ht : Blk X scope fun X' => STs CA X' ifs tt ft) (he : Blk X scope fun X' => SE CA X' elt te fe) (hs : ∀ x, foldedSetIterable iter X.env x = pure x := by intro _; rfl) :
    SE CA X (.ListComp elt [⟨tg, iter, ifs, 0⟩] scope pos) (tLc wi g tt te (own.map (·.2))) (xLc fi fg ft fe (own.map (·.2))) :=
  ⟨pe_lc hc hN hi.pe ok (fun s H C cl fp => (hg s H C cl fp).pe) (fun s H C cl fp => (ht s H C cl fp).pe) (fun s H C cl fp => (he s H C cl fp).pe) hs,
   so_lc hi.so (hg X.s_0 X.H_0 0 [] []).so (fun i hi => by simpa using List.all_eq_true.mp hws i hi) (ht X.s_0 X.H_0 0 [] []).so (he X.s_0 X.H_0 0 [] []).so⟩
theorem ss_setLc (hc : X.calm = true) (hN : X.N.Nodup) (hy : X.N[i]? = some y) (hyl : X.env.scope.names.lookup y = some .local)
    (hsw : swapsWith (.ListComp elt [⟨tg, iter, ifs, 0⟩] scope pos) (some (.Name y py)) spos.line X.env = pure true) (hi : SIt CA X tg iter wi fi) (ok : BlkOk X.N X.env.scope scope own) (hws : ws.all (fun i => (own.map (·.2)).contains i) = true)
    (hg : Blk X scope fun X' => SH CA X' tg g fg ws) (ht : Blk X scope fun X' => STs CA X' ifs tt ft) (he : Blk X scope fun X' => SE CA X' elt te fe) (hs : ∀ x, foldedSetIterable iter X.env x = pure x := by intro _; rfl) :
    SS CA X (.Assign [.Name y py] (.ListComp elt [⟨tg, iter, ifs, 0⟩] scope pos) spos) (tAsg (tLc wi g tt te (own.map (·.2))) (gName i)) (yAsg (xLc fi fg ft fe (own.map (·.2))) (hName i)) :=
  ⟨ps_setLc hc hN hy hyl hsw hi.pe ok (fun s H C cl fp => (hg s H C cl fp).pe) (fun s H C cl fp => (ht s H C cl fp).pe) (fun s H C cl fp => (he s H C cl fp).pe) hs,
   so_asg (so_lc hi.so (hg X.s_0 X.H_0 0 [] []).so (fun i hi => by simpa using List.all_eq_true.mp hws i hi) (ht X.s_0 X.H_0 0 [] []).so (he X.s_0 X.H_0 0 [] []).so) so_name⟩
theorem se_lc2 (hc : X.calm = true) (hN : X.N.Nodup) (hi : SIt CA X tg iter wi fi) (ok : BlkOk X.N X.env.scope scope own) (hv : ∀ i ∈ vs1, i ∈ own.map (·.2)) (hws : ws.all (fun i => (own.map (·.2)).contains i) = true) (hws1 : ws1.all (fun i => vs1.contains i) = true)
    (hg : Blk X scope fun X' => SH CA X' tg g fg ws) (ht : Blk X scope fun X' => STs CA X' ifs tt ft) (hi1 : Blk X scope fun X' => SIt CA X' tg1 iter1 wi1 fi1)
    (hg1 : Blk X scope fun X' => SH CA X' tg1 g1 fg1 ws1) (ht1 : Blk X scope fun X' => STs CA X' ifs1 tt1 ft1) (he : Blk X scope fun X' => SE CA X' elt te fe)
    (hs : ∀ x, foldedSetIterable iter X.env x = pure x := by intro _; rfl) (hs1 : ∀ env x, foldedSetIterable iter1 env x = pure x := by intro _ _; rfl) :
    SE CA X (.ListComp elt [⟨tg, iter, ifs, 0⟩, ⟨tg1, iter1, ifs1, 0⟩] scope pos) (tLc2 wi g tt wi1 g1 tt1 te (own.map (·.2)) vs1) (xLc2 fi fg ft fi1 fg1 ft1 fe (own.map (·.2)) vs1) :=
  ⟨pe_lc2 hc hN hi.pe ok hv (fun s H C cl fp => (hg s H C cl fp).pe) (fun s H C cl fp => (ht s H C cl fp).pe) (fun s H C cl fp => (hi1 s H C cl fp).pe) (fun s H C cl fp => (hg1 s H C cl fp).pe) (fun s H C cl fp => (ht1 s H C cl fp).pe) (fun s H C cl fp => (he s H C cl fp).pe) hs hs1,
   so_lc2 hi.so (hg X.s_0 X.H_0 0 [] []).so (fun i hi => by simpa using List.all_eq_true.mp hws i hi) (ht X.s_0 X.H_0 0 [] []).so (hi1 X.s_0 X.H_0 0 [] []).so (hg1 X.s_0 X.H_0 0 [] []).so (fun i hi => by simpa using List.all_eq_true.mp hws1 i hi) (ht1 X.s_0 X.H_0 0 [] []).so (he X.s_0 X.H_0 0 [] []).so⟩
theorem se_dc (hc : X.calm = true) (hN : X.N.Nodup) (hi : SIt CA X tg iter wi fi) (ok : BlkOk X.N X.env.scope scope own) (hws : ws.all (fun i => (own.map (·.2)).contains i) = true)
    (hg : Blk X scope fun X' => SH CA X' tg g fg ws) (ht : Blk X scope fun X' => STs CA X' ifs tt ft) (hk : Blk X scope fun X' => SE CA X' kx tk fk) (he : Blk X scope fun X' => SE CA X' vx tv fv) (hs : ∀ x, foldedSetIterable iter X.env x = pure x := by intro _; rfl) :
    SE CA X (.DictComp kx vx [⟨tg, iter, ifs, 0⟩] scope pos) (tDc wi g tt tk tv (own.map (·.2))) (xDc fi fg ft fk fv (own.map (·.2))) :=
  ⟨pe_dc hc hN hi.pe ok (fun s H C cl fp => (hg s H C cl fp).pe) (fun s H C cl fp => (ht s H C cl fp).pe) (fun s H C cl fp => (hk s H C cl fp).pe) (fun s H C cl fp => (he s H C cl fp).pe) hs,
   so_dc hi.so (hg X.s_0 X.H_0 0 [] []).so (fun i hi => by simpa using List.all_eq_true.mp hws i hi) (ht X.s_0 X.H_0 0 [] []).so (hk X.s_0 X.H_0 0 [] []).so (he X.s_0 X.H_0 0 [] []).so⟩
end
end Sh
end

noncomputable section
namespace Sh
open PySem PySem.Spec PyProof.Rows L2
/-! ### the mirrors of what is left -/
/-- a tuple of the module -/
def xKt (xs : List U) : XE := fun _ m => cond (Nat.blt m.n most) (some (.ref m.n, m.new (.ktup xs))) none
def xKt2 (xs ys : List U) : XE := fun _ m => cond (Nat.blt (m.n + 2) most) (some (.ref (m.n + 2), ((m.new (.ktup xs)).new (.ktup ys)).new (.ktup [.ref m.n, .ref (m.n + 1)]))) none
/-- is not True -/
def gIsntT (x y : U) (m : Mem) : Option (U × Mem) := match y with
  | .bl true => match x with
    | .bl b => some (.bl (!b), m)
    | _ => none
  | _ => none
def intsT (m : Mem) (x : U) : Option (List Int) := match seqT m x with
  | some xs => ints? xs
  | none => none
def gSumT (x : U) (m : Mem) : Option (U × Mem) := match intsT m x with
  | some ns => some (.int ns.sum, m)
  | none => none
def gSumA (x : U) (m : Mem) : Option (U × Mem) := alt (gSum x m) (gSumT x m)
/-- sum(d.values()) -/
def xSumV (fd : XE) : XE := fun s m => bd (fd s m) fun d m1 => match d with
  | .ref n => match m1.get n with
    | some (.dK kvs) => match ints? (kvs.map (·.2)) with
      | some ns => some (.int ns.sum, m1)
      | none => none
    | _ => none
  | _ => none
/-- d.update(e), ints as keys -/
def xUpd (fd fe : XE) : XE := fun s m => bd (fd s m) fun d m1 => cond (isDic m1 d) (bd (fe s m1) fun e m2 => match d with
  | .ref i => match e with
    | .ref j => match m2.get i with
      | some (.dK xs) => match m2.get j with
        | some (.dK ys) => cond (!Nat.beq i j && Nat.ble (xs.length + ys.length) 1000) (some (.non, m2.put i (.dK (ys.foldl (fun acc kv => putU acc kv.1 kv.2) xs)))) none
        | _ => none
      | _ => none
    | _ => none
  | _ => none) none
/-- the whole numbers, the largest first -/
def insD (i : Int) : List Int → List Int
  | [] => [i]
  | j :: r => cond (decide (j ≤ i)) (i :: j :: r) (j :: insD i r)
def srtD : List Int → List Int
  | [] => []
  | i :: r => insD i (srtD r)
def keysI : List (Key × U) → Option (List Int)
  | [] => some []
  | (.inl i, _) :: r => match keysI r with
    | some ns => some (i :: ns)
    | none => none
  | (.inr _, _) :: _ => none
/-- sorted(d, reverse=True), ints as keys -/
def xSrtD (fd : XE) : XE := fun s m => bd (fd s m) fun d m1 => match d with
  | .ref n => match m1.get n with
    | some (.dK kvs) => match keysI kvs with
      | some ns => cond (Nat.blt ns.length 64) (alloc m1 (.lst ((srtD ns).map .int))) none
      | none => none
    | _ => none
  | _ => none
/-- a pair of pairs of ints -/
def tupOnly (m : Mem) (u : U) : Option (List U) := match u with
  | .ref n => match m.get n with
    | some (.tup xs) => some xs
    | _ => none
  | _ => none
def two {α : Type} (xs : List α) : Option (α × α) := match xs with
  | [] => none
  | a :: r => match r with
    | [] => none
    | b :: q => match q with
      | [] => some (a, b)
      | _ :: _ => none
def pr2 (m : Mem) (u : U) : Option PyData := match tupOnly m u with
  | some xs => match ints? xs with
    | some ns => match two ns with
      | some (i, j) => some (.tuple [.int i, .int j])
      | none => none
    | none => none
  | none => none
def pr4 (m : Mem) (u : U) : Option PyData := match tupOnly m u with
  | some xs => match two xs with
    | some (a, b) => match pr2 m a with
      | some p => match pr2 m b with
        | some q => some (.tuple [p, q])
        | none => none
      | none => none
    | none => none
  | none => none
/-- sorted(xs) of at most two of these -/
def gSrt4 (x : U) (m : Mem) : Option (U × Mem) := match lstAt m x with
  | some [] => alloc m (.lst [])
  | some [a] => match pr4 m a with
    | some _ => alloc m (.lst [a])
    | none => none
  | some [a, b] => match pr4 m a with
    | some p => match pr4 m b with
      | some q => alloc m (.lst (cond (PySem.W.dataLt q p) [b, a] [a, b]))
      | none => none
    | none => none
  | _ => none
/-- sorted({x: True for x in xs}), xs of one pair of pairs -/
def xSrtK (fd : XE) : XE := fun s m => bd (fd s m) fun d m1 => match seqT m1 d with
  | some [a] => match pr4 m1 a with
    | some _ => alloc m1 (.lst [a])
    | none => none
  | _ => none
def xNewK : XE := fun _ m => alloc m (.dK [])
def xNewT : XE := fun _ m => alloc m (.dT [])
/-- a def -/
def startU (n : Nat) (us : List U) : S := us.map some ++ List.replicate (n - us.length) none
def xDef (np n : Nat) (y : XS) : XF := fun us m => cond (Nat.beq us.length np) (match y (startU n us) m with
  | some (.rt u, m') => some (u, m')
  | some (.nx _, m') => some (.non, m')
  | _ => none) none
/-- the draws -/
def mDraws : XF := fun us m => match us with
  | [] => none
  | x :: r => match r with
    | [] => match x with
      | .ref n => match m.get n with
        | some (.src ls) => cond (Nat.blt (m.n + 1) most) (some (.ref (m.n + 1), (m.new .scr).new (.drw m.n ls))) none
        | _ => none
      | _ => none
    | _ :: _ => none
def drawAt (n : Nat) (l : Int) (m : Mem) : Option (U × Mem) := match m.get n with
  | some (.drw r ls) => match m.get r with
    | some .scr => match ls with
      | (l', u) :: rest => cond (decide (l = l')) (some (u, m.put n (.drw r rest))) none
      | [] => none
    | _ => none
  | _ => none
def mDraw : XF := fun us m => match us with
  | [] => none
  | x :: r => match r with
    | [] => none
    | y :: q => match q with
      | [] => match x with
        | .ref n => match y with
          | .int l => drawAt n l m
          | _ => none
        | _ => none
      | _ :: _ => none
end Sh
end

noncomputable section
namespace Sh
open PySem PySem.Spec PyProof.Rows L2
section
variable {CA : Cd} {X : Cx} {k : Nat} {a b c d e : Expr} {pos pos' p apos cpos mpos : Pos} {ta tb tc td te : TE} {fa fb fc fd fe : XE} {es : List Expr} {tr : TA} {fr : XA}
/-! ### names of the module -/
theorem se_const {x : Str} {v : V} {u : U} (h : ∃ w, X.mg x = some w ∧ RelV v w) (r : ∀ ρ, RV ρ u v) (hg : Gl X x := by rfl) (hd : (x == ("__debug__" : Str)) = false := by decide) : SE CA X (.Name x pos) (tC v) (xC u) := by
  obtain ⟨w, hm, rel⟩ := h
  exact se_glob hg hm rel r hd
theorem R.newK {W : Wd} {ρ : List Addr} {m : Mem} {H : Hp} {xs : List U} {vs : List V} {a : Addr} (r : R W ρ m H) (hm : m.n < most) (hk : KTup W.K a vs) (rv : RVs (ρ ++ [a]) xs vs) : R W (ρ ++ [a]) (m.new (.ktup xs)) H := by
  have hl : ∀ (i : Nat) (b : Addr), (ρ ++ [a])[i]? = some b → (i < m.n ∧ ρ[i]? = some b) ∨ (i = m.n ∧ b = a) := fun i b e => by
    by_cases h : i < ρ.length
    · rw [List.getElem?_append_left h] at e
      exact .inl ⟨by rw [← r.len]; exact h, e⟩
    · rw [List.getElem?_append_right (by omega)] at e
      have hi : i - ρ.length = 0 := by
        have := (List.getElem?_eq_some_iff.mp e).1
        simp at this
        omega
      rw [hi] at e
      simp at e
      exact .inr ⟨by have := r.len; omega, e.symm⟩
  refine ⟨by rw [List.length_append, r.len]; rfl, fun i j b x y hi hj gi gj mi mj => ?_, fun i b x hi gi => ?_, by show m.n + 1 ≤ most; omega⟩
  · rcases hl i b hi with ⟨li, hi1⟩ | ⟨rfl, ea⟩ <;> rcases hl j b hj with ⟨lj, hj1⟩ | ⟨rfl, eb⟩
    · rw [Mem.new_ne (by omega)] at gi gj
      exact r.inj i j b x y hi1 hj1 gi gj mi mj
    · rw [Mem.new_same hm] at gj
      cases gj; cases mj
    · rw [Mem.new_same hm] at gi
      cases gi; cases mi
    · rfl
  · rcases hl i b hi with ⟨li, hi⟩ | ⟨rfl, rfl⟩
    · rw [Mem.new_ne (by omega)] at gi
      exact RO.mono (pre_snoc ρ a) (r.obj i b x hi gi)
    · rw [Mem.new_same hm] at gi
      cases gi
      exact ⟨vs, hk, rv⟩
theorem se_kt {x : Str} {xs : List U} {vs : List V} {q : Addr} (hm : X.mg x = some (.ref q)) (hk : KTup X.K q vs) (rv : ∀ ρ, RVs ρ xs vs) (hg : Gl X x := by rfl) (hd : (x == ("__debug__" : Str)) = false := by decide) : SE CA X (.Name x pos) (tC (.ref q)) (xKt xs) := by
  refine ⟨pe_glob hg hm rfl hd, fun s m u m' h ρ σ H Q r rs qq => ?_⟩
  unfold xKt at h
  obtain ⟨hl, h⟩ := cond_inv h
  cases h
  exact qq (ρ ++ [q]) _ H (pre_snoc ρ q) (R.newK (W := wd CA X) r (blt_lt hl) hk (rv _)) ⟨q, at_new r, rfl⟩
theorem se_kt2 {x : Str} {xs ys : List U} {vs ws : List V} {q q1 q2 : Addr} (hm : X.mg x = some (.ref q)) (hk : KTup X.K q [.ref q1, .ref q2]) (hk1 : KTup X.K q1 vs) (hk2 : KTup X.K q2 ws) (rv : ∀ ρ, RVs ρ xs vs) (rw' : ∀ ρ, RVs ρ ys ws) (hg : Gl X x := by rfl) (hd : (x == ("__debug__" : Str)) = false := by decide) :
    SE CA X (.Name x pos) (tC (.ref q)) (xKt2 xs ys) := by
  refine ⟨pe_glob hg hm rfl hd, fun s m u m' h ρ σ H Q r rs qq => ?_⟩
  unfold xKt2 at h
  obtain ⟨hl, h⟩ := cond_inv h
  cases h
  have hl : m.n + 2 < most := blt_lt hl
  have r1 := R.newK (W := wd CA X) r (by omega) hk1 (rv _)
  have r2 := R.newK (W := wd CA X) r1 (show m.n + 1 < most by omega) hk2 (rw' _)
  have p1 := pre_snoc ρ q1
  have p2 := pre_snoc (ρ ++ [q1]) q2
  have a1 : (ρ ++ [q1])[m.n]? = some q1 := at_new r
  have a2 : ((ρ ++ [q1]) ++ [q2])[m.n + 1]? = some q2 := at_new r1
  have r3 := R.newK (W := wd CA X) (xs := [.ref m.n, .ref (m.n + 1)]) r2 (show m.n + 1 + 1 < most from hl) hk (.cons ⟨q1, at_mono ((p2).trans (pre_snoc _ q)) a1, rfl⟩ (.cons ⟨q2, at_mono (pre_snoc _ q) a2, rfl⟩ .nil))
  have a3 : (((ρ ++ [q1]) ++ [q2]) ++ [q])[m.n + 1 + 1]? = some q := at_new r2
  exact qq _ _ H (p1.trans (p2.trans (pre_snoc _ q))) r3 ⟨q, a3, rfl⟩
/-! ### stores of a name -/
theorem ss_st {i : Nat} {x : Str} (hN : X.N.Nodup) (he : SE CA X e te fe) (hi : X.N[i]? = some x := by rfl) (hx : Loc X.env.scope x := by first | exact Or.inl rfl | exact Or.inr rfl)
    (hs : swapsWith e (some (.Name x pos')) pos.line X.env = pure false := by rfl) (hf : X.fn x = true ∨ X.env.scope.names.lookup x = some .local := by first | exact .inl rfl | exact .inr rfl) :
    SS CA X (.Assign [.Name x pos'] e pos) (tAsg te (gName i)) (yAsg fe (hName i)) := ss_set he fun h => ps_set hN hi hx h hs hf
theorem sh_nm {i : Nat} {x : Str} (hN : X.N.Nodup) (hi : X.N[i]? = some x := by rfl) (hx : Loc X.env.scope x := by first | exact Or.inl rfl | exact Or.inr rfl) (hf : X.fn x = true ∨ X.env.scope.names.lookup x = some .local := by first | exact .inl rfl | exact .inr rfl) : SH CA X (.Name x pos) (gName i) (hName i) [i] := sh_name (pg_name hN hi hx hf)
/-! ### chains -/
theorem se_chn {op op' : CmpOp} {r r' : R2} {g g' : U → U → Mem → Option (U × Mem)} (ho : SO CA X (compareOp op) r g) (ho' : SO CA X (compareOp op') r' g') (ha : SE CA X a ta fa) (hb : SE CA X b tb fb) (hc : SE CA X c tc fc)
    (hm : lastMarks [op, op'] [b, c] = false := by with_unfolding_all rfl) : SE CA X (.Compare a [op, op'] [b, c] pos) (tChain r r' ta tb tc) (xChain g g' fa fb fc) := se_chain ho ho' ha hb hc (pe_chain ho.pe ho'.pe ha.pe hb.pe hc.pe hm)
theorem st_chn {op op' : CmpOp} {r r' : R2} {g g' : U → U → Mem → Option (U × Mem)} (ho : SO CA X (compareOp op) r g) (ho' : SO CA X (compareOp op') r' g') (ha : SE CA X a ta fa) (hb : SE CA X b tb fb) (hc : SE CA X c tc fc)
    (hm : lastMarks [op, op'] [b, c] = false := by with_unfolding_all rfl) : ST CA X (.Compare a [op, op'] [b, c] pos) (tTest (tChain r r' ta tb tc)) (xTv (xChain g g' fa fb fc)) := ⟨pt_chain ho.pe ho'.pe ha.pe hb.pe hc.pe hm, so_tv (so_chain ho.so ho'.so ha.so hb.so hc.so)⟩
/-! ### is not True -/
theorem o_isntT : SO CA X (compareOp .IsNot) (fun x y H Q => ∃ i, x = .bl i ∧ y = .bl true ∧ Q (.bl (!i)) H) gIsntT := ⟨by
  intro pins s σ H x y v u Q I rx ry h
  obtain ⟨i, rfl, rfl, q⟩ := h
  cases rx
  cases ry
  refine wpAny_isNot_plain (by cases i <;> rfl) ⟨.bl (!i), H, I, ?_, q⟩
  cases i <;> rfl, by
  intro x y m u m' h ρ vx vy H Q r rx ry q
  cases y with
  | bl j =>
    cases j with
    | true =>
      cases x with
      | bl i => cases h; cases rx; cases ry; exact ⟨i, rfl, rfl, q ρ _ H (List.prefix_refl ρ) r rfl⟩
      | _ => cases h
    | false => cases h
  | _ => cases h⟩
/-! ### {} -/
theorem alloc_ok {W : Wd} {ρ : List Addr} {m m' : Mem} {H : Hp} {o : Ob} {u : U} {w : HO} {p : Addr} (r : R W ρ m H) (h : alloc m o = some (u, m')) (hp : H p = none) (ho : RO W (ρ ++ [p]) (upd H p w) p o) : R W (ρ ++ [p]) m' (upd H p w) ∧ RV (ρ ++ [p]) u (.ref p) := by
  obtain ⟨hm, rfl, rfl⟩ := alloc_inv h
  exact ⟨r.new hp hm ho, p, at_new r, rfl⟩
theorem se_newK : SE CA X (.Dict [] [] pos) tDNewK xNewK := ⟨pe_dnewK, fun s m u m' h ρ σ H Q r rs q p hp => by
  obtain ⟨r1, r2⟩ := alloc_ok (w := .dK []) r h hp ⟨[], upd_same, .nil⟩
  exact q _ _ _ (pre_snoc ρ p) r1 r2⟩
theorem se_newT : SE CA X (.Dict [] [] pos) tDNewT xNewT := ⟨pe_dnewT, fun s m u m' h ρ σ H Q r rs q p hp => by
  obtain ⟨r1, r2⟩ := alloc_ok (w := .dT []) r h hp ⟨[], upd_same, .nil⟩
  exact q _ _ _ (pre_snoc ρ p) r1 r2⟩
end
/-! ### a def -/
theorem start_ok {ρ : List Addr} {us : List U} {vs : List V} {N : List Str} {n : Nat} (hn : N.length = n) (r : RVs ρ us vs) : Rs ρ (startU n us) (L2.start N vs) := by
  unfold startU L2.start
  rw [hn, Paired.length r]
  refine Paired.append ?_ ?_
  · induction r with
    | nil => exact .nil
    | cons h t ih => exact .cons h ih
  · induction (n - vs.length) with
    | zero => exact .nil
    | succ k ih => exact .cons trivial ih
theorem def_ok {P : Program} {w : World} {K : PySem.W.Frag} {CA : Cd} {mg : Str → Option Value} {base : Heap} {x qual : Str} {params : Arguments} {body : List Stmt} {scope : Scope} {dvs : List V} {kws : List (Str × V)} {f : Addr} {fd : FuncData} {N ps : List Str} {k np n : Nat} {y : XS}
    (F : FunD K x qual params body scope dvs kws f fd) (sc : FnScope N ps scope) (hp : ps.length = np) (hn : N.length = n)
    (hb : ∀ (cdv : Value) (A : Around) (outer : List Env) (s : Shared) (H : Hp) (E : XK), Room k (A.deeper (envOfC qual scope s.heap.objs.size f cdv)) → ∃ t, SSs CA (cxOf CX0 P w K mg base N qual scope f cdv A outer s H E).nox body t y) :
    FnOk P w K mg base CX0 (k + 1) f fd ps (spOf ⟨K, CA⟩ (xDef np n y)) := by
  refine F.ok sc (fun vs H Q E h => ?_) (fun cdv A outer s H vs Q E hr h => ?_)
  · obtain ⟨ρ, us, m, u, m', r, rv, e, _⟩ := h
    obtain ⟨e1, _⟩ := cond_inv e
    rw [← Paired.length rv, hp]
    exact Nat.eq_of_beq_eq_true e1
  · obtain ⟨t, ht⟩ := hb cdv A outer s H E hr
    refine ⟨t, PSs.nox ht.pe, ?_⟩
    obtain ⟨ρ, us, m, u, m', r, rv, e, q⟩ := h
    obtain ⟨_, e⟩ := cond_inv e
    cases e2 : y (startU n us) m with
    | none => simp only [e2] at e; cases e
    | some z =>
      obtain ⟨fl, m1⟩ := z
      simp only [e2] at e
      refine ht.so _ m fl m1 e2 ρ _ H _ r (start_ok hn rv) ?_
      cases fl with
      | nx s1 => cases e; exact fun ρ' σ' H' p r' _ => q ρ' _ H' p r' rfl
      | rt v => cases e; exact fun ρ' v' H' p r' rv' => q ρ' v' H' p r' rv'
      | bk s1 => cases e
      | ct s1 => cases e
end Sh
end

noncomputable section
namespace Sh
open PySem PySem.Spec PyProof.Rows L2
/-! ### the rules with the frag named -/
section
variable {CA : Cd} {X : Cx} {k j : Nat} {a b c o i e value : Expr} {pos pos' p apos cpos tpos p2 : Pos} {ta tb tc : TE} {fa fb fc : XE} {es : List Expr} {tr : TA} {fr : XA} {ws : List Nat} (K : PySem.W.Frag) (hK : X.K = K)
include hK
theorem k_add : SO CA X (binaryOp .Add) (fun x y H Q => rI0 (fun i j => .int (i + j)) x y H Q ∨ (rCat x y H Q ∨ (rCatA K x y H Q ∨ rAddS x y H Q))) gAdd := by subst hK; exact o_add
theorem k_mul : SO CA X (binaryOp .Mult) (fun x y H Q => rI CMul (fun i j => .int (i * j)) x y H Q ∨ (rRep x y H Q ∨ rRepT K x y H Q)) gMul := by subst hK; exact o_mul
theorem k_eq (hr : Room k X.A) : SO CA X (compareOp .Eq) (fun x y H Q => rEq x y H Q ∨ rEqD K x y H Q) gEq := by subst hK; exact o_eq hr
theorem k_ne (hr : Room k X.A) : SO CA X (compareOp .NotEq) (fun x y H Q => rNe x y H Q ∨ rNeD K x y H Q) gNe := by subst hK; exact o_ne hr
theorem k_in (hr : Room k X.A) : SO CA X (compareOp .In) (fun x y H Q => rIn K false x y H Q ∨ (rInDic false x y H Q ∨ (rInSg false x y H Q ∨ rInT K false x y H Q))) (gIn false) := by subst hK; exact o_in hr
theorem k_notIn (hr : Room k X.A) : SO CA X (compareOp .NotIn) (fun x y H Q => rIn K true x y H Q ∨ (rInDic true x y H Q ∨ (rInSg true x y H Q ∨ rInT K true x y H Q))) (gIn true) := by subst hK; exact o_notIn hr
theorem k_ix (hr : Room k X.A) (ha : SE CA X a ta fa) (hb : SE CA X b tb fb) (hs : PlainIx b := by intro _ _; rfl) :
    SE CA X (.Subscript a b pos) (tOp (fun x y H Q => rIxL K x y H Q ∨ (rIxT K x y H Q ∨ rIxDD x y H Q)) ta tb) (xOp gIx fa fb) := by subst hK; exact se_ix hr ha hb hs
theorem k_slice {lo hi : Option Expr} {tl th : TO} {fl fh : XO} (ha : SE CA X a ta fa) (hl : SOp CA X lo tl fl) (hh : SOp CA X hi th fh) : SE CA X (.Subscript a (.Slice lo hi none p2) pos) (tSl (rSl K) ta tl th) (xSl fa fl fh) := by subst hK; exact se_slice ha hl hh
theorem k_fld {c : Nat} {f g : Str} (hC : Cls X.K (CA c)) (hn : NoAttr X.K (CA c) f) (ha : SE CA X a ta fa) (hg : f = g := by rfl) (hb : attributeBase a f X.env (eval a X.env) = eval a X.env := by rfl) : SE CA X (.Attribute a f pos) (tFld K ta f) (xFld c g fa) := by subst hK; exact se_fld hC hn ha hg hb
theorem k_call {x : Str} {g : XF} {dus : List U} {dvs : List V} (c : Cal X.prog X.w K CA X.mg X.base x k g dus dvs) (hr : Room j X.A) (ha : SA CA X (e :: es) tr fr) (hj : k ≤ j := by decide) (hg : Gl X x := by rfl) (hdb : (x == ("__debug__" : Str)) = false := by decide)
    (he : starEach (e :: es) X.env = (false, eval e X.env) :: starEach es X.env := by rfl) (hpl : (backTo pos (starEach es X.env)).any (·.1) = false := by rfl) : SE CA X (.Call (.Name x p) (e :: es) [] pos) (tCall (spOf ⟨K, CA⟩ g) dvs E0 tr) (xCall g dus fr) := by subst hK; exact se_call c hr ha hj hg hdb he hpl
theorem k_meth {c : Nat} {x y : Str} {g : XF} {dus : List U} {dvs : List V} {pl : Sem Bool} (cm : CalM X.prog X.w K CA X.mg X.base c x k g dus dvs) (hr : Room j X.A) (ho : SE CA X o ta fa) (ha : SA CA X (e :: es) tr fr) (hj : k ≤ j := by decide) (hx : x = y := by rfl)
    (hst : starEach (e :: es) X.env = (false, eval e X.env) :: starEach es X.env := by rfl) (hpl : (backTo pos (starEach es X.env)).any (·.1) = false := by rfl)
    (ht : eval (.Call (.Attribute o x apos) (e :: es) [] pos) X.env = (do
      let ov ← eval o X.env
      standAt apos.atName
      let (f, first) ← holding [ov] (getMethod ov x pl)
      callWith pos f first (backTo pos (starEach (e :: es) X.env)) (backToKw pos (keywordEach [] X.env))) := by rfl) :
    SE CA X (.Call (.Attribute o x apos) (e :: es) [] pos) (tMeth (CA c) x (spOf ⟨K, CA⟩ g) dvs E0 ta tr) (xMeth c y g dus fa fr) := by subst hK; exact se_meth cm hr ho ha hj hx hst hpl ht
theorem k_meth0 {c : Nat} {x y : Str} {g : XF} {dus : List U} {dvs : List V} {pl : Sem Bool} (cm : CalM X.prog X.w K CA X.mg X.base c x k g dus dvs) (hr : Room j X.A) (ho : SE CA X o ta fa) (hj : k ≤ j := by decide) (hx : x = y := by rfl)
    (ht : eval (.Call (.Attribute o x apos) [] [] pos) X.env = (do
      let ov ← eval o X.env
      standAt apos.atName
      let (f, first) ← holding [ov] (getMethod ov x pl)
      callWith pos f first (backTo pos (starEach [] X.env)) (backToKw pos (keywordEach [] X.env))) := by rfl) :
    SE CA X (.Call (.Attribute o x apos) [] [] pos) (tMeth (CA c) x (spOf ⟨K, CA⟩ g) dvs E0 ta tNil) (xMeth c y g dus fa xNil) := by subst hK; exact se_meth0 cm hr ho hj hx ht
theorem k_make {c : Nat} {x : Str} {g : XF} {dus : List U} {dvs : List V} (ci : CalI X.prog X.w K CA X.mg X.base c x k g dus dvs) (hr : Room j X.A) (ha : SA CA X (e :: es) tr fr) (hj : k + 1 ≤ j := by decide) (hg : Gl X x := by rfl) (hdb : (x == ("__debug__" : Str)) = false := by decide)
    (he : starEach (e :: es) X.env = (false, eval e X.env) :: starEach es X.env := by rfl) (hpl : (backTo pos (starEach es X.env)).any (·.1) = false := by rfl) : SE CA X (.Call (.Name x p) (e :: es) [] pos) (tMake (CA c) (spOf ⟨K, CA⟩ g) dvs E0 tr) (xMake c g dus fr) := by subst hK; exact se_make ci hr ha hj hg hdb he hpl
theorem k_make0 {c : Nat} {x : Str} {g : XF} {dus : List U} {dvs : List V} (ci : CalI X.prog X.w K CA X.mg X.base c x k g dus dvs) (hr : Room j X.A) (hj : k + 1 ≤ j := by decide) (hg : Gl X x := by rfl) (hdb : (x == ("__debug__" : Str)) = false := by decide) :
    SE CA X (.Call (.Name x p) [] [] pos) (tMake (CA c) (spOf ⟨K, CA⟩ g) dvs E0 tNil) (xMake c g dus xNil) := by subst hK; exact se_make0 ci hr hj hg hdb
theorem k_isi {t : Nat} {T : Str} {q2 : Pos} (ht : 1 ≤ t) (ht5 : t ≤ 5) (hm : X.mg "isinstance" = none) (hmT : X.mg T = none) (hT : bootBuiltins T = some (.type (tyS t))) (ha : SE CA X e ta fa) (hg : Gl X "isinstance" := by rfl) (hgT : Gl X T := by rfl) (hn : T ≠ "__name__" := by decide) (hdb : (T == ("__debug__" : Str)) = false := by decide)
    (he : starEach [e, .Name T q2] X.env = (false, eval e X.env) :: starEach [.Name T q2] X.env := by rfl) (hpl : (backTo pos (starEach [.Name T q2] X.env)).any (·.1) = false := by rfl) (he2 : starEach [.Name T q2] X.env = (false, eval (.Name T q2) X.env) :: starEach [] X.env := by rfl) :
    SE CA X (.Call (.Name "isinstance" p) [e, .Name T q2] [] pos) (tCB (rIsi K) (tCons ta (tCons (tC (.ty (tyS t))) tNil))) (xIsi t fa) := by subst hK; exact se_isi ht ht5 hm hmT hT ha hg hgT hn hdb he hpl he2
theorem k_lm {name : Str} {id : String} {g : U → List U → Mem → Option (U × Mem)} {r : V → List V → Hp → VK → Prop} (pa : PlainAttrs "list") (slot : Slot "list" name id) (hty : typeOf (.builtin id) = pure (.type "method_descriptor")) (hm : SM CA X id r g) (ho : SE CA X o ta fa) (ha : SA CA X (e :: es) tr fr)
    (hbase : attributeBase o name X.env (eval o X.env) = eval o X.env := by rfl)
    (hfew : ((backTo cpos (starEach (e :: es) X.env)).all (fun x => !x.1) && (backToKw cpos (keywordEach [] X.env)).all (fun x => x.1.isSome)
      && decide ((e :: es).length + ([] : List Keyword).length + (if ([] : List Keyword).isEmpty then 0 else 1) < 30)) = true := by rfl)
    (hline : (apos.endLine == cpos.line) = true := by rfl) (hs : starEach (e :: es) X.env = (false, eval e X.env) :: starEach es X.env := by rfl) (hplain : (backTo cpos (starEach es X.env)).any (·.1) = false := by rfl) : SE CA X (.Call (.Attribute o name apos) (e :: es) [] cpos) (tBM K "list" r ta tr) (xLM g fa fr) := by subst hK; exact se_lm pa slot hty hm ho ha hbase hfew hline hs hplain
theorem k_lm0 {name : Str} {id : String} {g : U → List U → Mem → Option (U × Mem)} {r : V → List V → Hp → VK → Prop} (pa : PlainAttrs "list") (slot : Slot "list" name id) (hty : typeOf (.builtin id) = pure (.type "method_descriptor")) (hm : SM CA X id r g) (ho : SE CA X o ta fa)
    (hbase : attributeBase o name X.env (eval o X.env) = eval o X.env := by rfl) (hline : (apos.endLine == cpos.line) = true := by rfl) :
    SE CA X (.Call (.Attribute o name apos) [] [] cpos) (tBM0 K "list" r ta) (xLM g fa xNil) := by subst hK; exact se_lm0 pa slot hty hm ho hbase hline
theorem k_len : SC CA X (.builtin "len") (rLenA K) (f1 gLen) := by subst hK; exact c_len
theorem k_max (hc : X.calm = true) : SC CA X (.builtin "max") (rMax K) (f1 gMax) := by subst hK; exact c_max hc
theorem k_any (hc : X.calm = true) : SC CA X (.builtin "any") (rAny K) (f1 gAny) := by subst hK; exact c_any hc
theorem k_all (hc : X.calm = true) : SC CA X (.builtin "all") (rAll K) (f1 gAll) := by subst hK; exact c_all hc
theorem k_list : SC CA X (.type "list") (fun xs H Q => ∃ p ys, xs = [.ref p] ∧ (SqL K H p ys ∨ SqT K H p ys) ∧ ∀ l, H l = none → Q (.ref l) (upd H l (.lst ys))) (f1 gList) := by subst hK; exact c_list
theorem k_tuple : SC CA X (.type "tuple") (fun xs H Q => ∃ p ys, xs = [.ref p] ∧ ((SqL K H p ys ∧ ∀ l, H l = none → Q (.ref l) (upd H l (.tup ys))) ∨ (SqT K H p ys ∧ Q (.ref p) H))) (f1 gTuple) := by subst hK; exact c_tuple
theorem k_seq {tg : Expr} (he : SE CA X e ta fa) : SIt CA X tg e (tSeq K ta) (xSeq fa) := by subst hK; exact si_seq he
theorem k_en {elts : List Expr} {kk : Nat} (hm : X.mg "enumerate" = none) (ha : SA CA X [e] tr fr) (hg : Gl X "enumerate" := by rfl) (hs : starEach [e] X.env = [(false, eval e X.env)] := by rfl) :
    SIt CA X (.Tuple elts kk tpos) (.Call (.Name "enumerate" p) [e] [] pos) (fun σ H R => iEnum K tr σ H R ∨ iEnumT K tr σ H R) (xEnA fr) := by subst hK; exact si_en hm ha hg hs
theorem k_htup {n kk : Nat} {tgs : TGs} {fgs : XGs} (hc : X.calm = true) (h : SHs CA X es tgs fgs ws) (hn : (assignEach es X.env).length = n := by rfl) (hst : (assignEach es X.env).findIdx? (·.1) = none := by rfl) : SH CA X (.Tuple es kk pos) (gUnp K n tgs) (hTup n fgs) ws := by subst hK; exact sh_tup hc h hn hst
end
end Sh
end

noncomputable section
namespace Sh
open PySem PySem.Spec PyProof.Rows L2
section
variable {CA : Cd} {X : Cx} {k j : Nat} {a b c d o e : Expr} {pos pos' p apos cpos mpos : Pos} {ta tb tc td te : TE} {fa fb fc fd fe : XE} {es : List Expr} {tr : TA} {fr : XA}
/-! ### sum of a tuple, of a dict's values -/
theorem ints_back {ρ : List Addr} : ∀ {ns : List Int} {vs : List V}, RVs ρ (ns.map U.int) vs → vs = ns.map V.int
  | [], _, .nil => rfl
  | n :: ns, _, .cons r rr => by
    rw [ints_back rr]
    cases r
    rfl
theorem vals_back {κ : Type} {ρ : List Addr} : ∀ {kvs : List (κ × U)} {ws : List (κ × V)} {ns : List Int}, RKV ρ kvs ws → kvs.map (·.2) = ns.map U.int → ws.map (·.2) = ns.map V.int
  | [], _, [], .nil, _ => rfl
  | [], _, _ :: _, .nil, e => by cases e
  | _ :: _, _, [], .cons _ _, e => by cases e
  | p :: kvs, q :: ws, n :: ns, .cons r rr, e => by
    obtain ⟨e1, e2⟩ := List.cons.inj e
    rw [List.map_cons, List.map_cons, vals_back rr e2]
    have r2 := r.2
    have e1 : p.2 = U.int n := e1
    rw [e1] at r2
    rw [show q.2 = V.int n from r2]
def rSumT (K : PySem.W.Frag) : List V → Hp → VK → Prop := fun vs H Q => ∃ (a : Addr) (ns : List Int), vs = [V.ref a] ∧ SqT K H a (ns.map V.int) ∧ Q (.int ns.sum) H
theorem cr_sumT (hc : X.calm = true) : CallR X (.builtin "sum") (rSumT X.K) := by
  intro pins s σ H vs us Q I r h
  obtain ⟨q, ns, rfl, hs, fin⟩ := h
  obtain ⟨its, rv, hl, _⟩ := I.tuple hs
  rw [Vals.ref1 r]
  have hi := rv.ints
  obtain ⟨xs, hx⟩ := hi.allInts.items
  have hn : numsOf its.toArray.toList = ns := by rw [show its.toArray.toList = its from rfl, hi.numsOf]
  have hl2 : s.heap.IsTuple q its.toArray := hl
  rw [hx] at hl2 hn
  rw [nums_intItems] at hn
  refine PySem.W.ktm_sumG (I.ok.hd hc) hl2 fun h' tk t' hk => ⟨.int ns.sum, H, I.kept hk, ⟨t', ?_⟩, fin⟩
  rw [preSum_eq, List.take_of_length_le (by simp), hn]
theorem k_sumA (K : PySem.W.Frag) (hK : X.K = K) (hc : X.calm = true) : SC CA X (.builtin "sum") (fun xs H Q => rSum K xs H Q ∨ rSumT K xs H Q) (f1 gSumA) := by
  subst hK
  refine ⟨fun pins s σ H xs us Q I r h => h.elim ((c_sum (CA := CA) hc).pe pins s σ H xs us Q I r) (cr_sumT hc pins s σ H xs us Q I r), soc1 ?_⟩
  intro x m u m' h ρ vx H Q r rx q
  unfold gSumA at h
  cases e : gSum x m with
  | some z =>
    rw [e] at h
    cases (show some z = some (u, m') from h)
    exact .inl ((c_sum (CA := CA) hc).so [x] m u m' e ρ _ H Q r (.cons rx .nil) q)
  | none =>
    rw [e] at h
    have h : gSumT x m = some (u, m') := h
    unfold gSumT intsT at h
    cases e2 : seqT m x with
    | none => simp only [e2] at h; cases h
    | some xs =>
      simp only [e2] at h
      cases e3 : ints? xs with
      | none => simp only [e3] at h; cases h
      | some ns =>
        simp only [e3] at h
        cases h
        obtain ⟨a, vs, rfl, hs, r1⟩ := seqT_inv r e2 rx
        have ex := ints_of e3
        subst ex
        have ev : vs = ns.map V.int := ints_back r1
        subst ev
        exact .inr ⟨a, ns, rfl, hs, q ρ _ H (List.prefix_refl ρ) r rfl⟩
def tSumV (td : TE) : TE := fun σ H Q => td σ H fun x H1 => ∃ (a : Addr) (kvs : List (Key × V)) (is : List Int), x = V.ref a ∧ H1 a = some (.dK kvs) ∧ kvs.map (·.2) = is.map V.int ∧ Q (.int is.sum) H1
theorem preSum_getD (is : List Int) : ∀ n, n ≤ is.length → preSum (fun i => is.getD i 0) n = (is.take n).sum
  | 0, _ => rfl
  | n + 1, h => by
    show preSum (fun i => is.getD i 0) n + is.getD n 0 = _
    rw [preSum_getD is n (by omega), List.take_add_one, List.sum_append]
    have : is[n]? = some (is.getD n 0) := by rw [List.getD_eq_getElem?_getD, List.getElem?_eq_getElem (by omega)]; rfl
    rw [this]
    simp
theorem pe_sumV (hc : X.calm = true) (hm : X.mg "sum" = none) (hd : PE X o td) (hg : Gl X "sum" := by rfl) (hbase : attributeBase o "values" X.env (eval o X.env) = eval o X.env := by rfl) (hline : (apos.endLine == mpos.line) = true := by rfl)
    (hse : starEach [Expr.Call (.Attribute o "values" apos) [] [] mpos] X.env = [(false, eval (Expr.Call (.Attribute o "values" apos) [] [] mpos) X.env)] := by rfl) :
    PE X (.Call (.Name "sum" p) [.Call (.Attribute o "values" apos) [] [] mpos] [] pos) (tSumV td) := by
  refine ⟨fun pins s σ H Q I h => ?_⟩
  refine wpAny_Call_Name_kw (ld_blt I hg hm boot_sum ?_ (by decide) (by decide))
  rw [hse]
  refine PySem.callWith_builtin1 (wpAny_Call_method0_late hbase hline (thn (hd.run pins s σ H _ I h) fun v s1 ⟨x, H1, I1, r1, d, kvs, is, ex, hD, hv, fin⟩ => ?_))
  subst ex
  obtain rfl : v = Value.ref d := r1
  obtain ⟨_, hsys, vs, rel, dof⟩ := dk_of I1.hok hD
  obtain ⟨ep, dat⟩ := dof.dictAt
  have dat0 := dat
  obtain ⟨ob, _, ho, ex, _⟩ := dat0
  refine ⟨"dict", "dict.values", F.plainAttrs_dict, F.slot_dict_values, F.type_dict_values, ⟨ob, ho, ex.1⟩, fun b e => (by cases e; exact ⟨ob, ho, ex.2.1⟩), Calls.callWith_builtin rfl (PySem.evalArgs_none ?_)⟩
  refine call_meetsIn F.slot_dict_values ⟨ob, ho, ex.1⟩ F.entry_dict_values (F.args_dict_values_1 _) (meets_dict_values (mixKind X.prog X.w) d hsys) ⟨⟨vs, dof⟩, ?_⟩
  generalize hh1 : s1.heap.push { cls := .type "dict_values", data := .fields #[.ref d] } = h1
  have up : ∀ b u, s1.heap.get? b = some u → h1.get? b = some u := fun b u e => by rw [← hh1]; exact Heap.get?_push_of_some _ e
  have hz1 : h1.objs.size = s1.heap.objs.size + 1 := by rw [← hh1]; exact Heap.size_push _ _
  have view : h1.IsValuesView s1.heap.objs.size d := by rw [← hh1]; exact ⟨_, Heap.get?_push_size _ rfl, rfl, rfl⟩
  have dat1 : h1.DictAt (mixKind X.prog X.w) d vs ep := dat.keep up
  have lens : vs.length = is.length := by
    have e1 := congrArg List.length hv
    rw [List.length_map, List.length_map] at e1
    rw [← e1]
    exact (KV.length rel).symm
  have hval : ∀ (i : Nat) (v : Value), (∃ k, vs[i]? = some (k, v)) → ∃ t, v = Value.int (is.getD i 0) t := fun i v ⟨k, hk⟩ => by
    obtain ⟨x, g1, g2⟩ := KV.at' rel hk
    have e1 : (kvs.map (·.2))[i]? = some x := by rw [List.getElem?_map, g1]; rfl
    rw [hv, List.getElem?_map] at e1
    obtain ⟨z, hz, e2⟩ := Option.map_eq_some_iff.mp e1
    subst e2
    obtain ⟨t, e3⟩ := g2
    exact ⟨t, by rw [e3, List.getD_eq_getElem?_getD, hz]; rfl⟩
  have hlt : d < s1.heap.objs.size := Heap.lt_size ho
  refine call_sum_walkG (wpAny_pyIter_values (s := { s1 with heap := h1 }) (v := s1.heap.objs.size) (d := d) view dat1 ?_)
  refine ⟨_, _, _, _, _, _, fun i => is.getD i 0, rfl, Walks.dictValues (knd := mixKind X.prog X.w) (A := X.A.in1) (I.ok.hd hc) h1.objs.size d (by rw [hz1]; exact Nat.ne_of_lt (Nat.lt_succ_of_lt hlt)) vs ep, ⟨⟨_, Heap.get?_push_size _ rfl, rfl, rfl⟩, dat1.keep fun b u e => Heap.get?_push_of_some _ e⟩, fun b hb => ?_, hval, fun h' tk t' hk => ?_⟩
  · show b < (h1.push _).objs.size
    rw [Heap.size_push]
    rcases List.mem_cons.mp hb with e | hb
    · rw [e]; exact Nat.lt_succ_self _
    · rw [List.mem_singleton.mp hb, hz1]
      exact Nat.lt_succ_of_lt (Nat.lt_succ_of_lt hlt)
  · refine ⟨.int is.sum, H1, I1.kept (t' := tk) fun b u e => hk b u (fun hmem => ?_) (Heap.get?_push_of_some _ (up b u e)), ⟨t', ?_⟩, fin⟩
    · have e1 := List.mem_singleton.mp hmem
      have e2 := Heap.lt_size e
      rw [hz1] at e1
      rw [e1] at e2
      exact absurd e2 (Nat.not_lt.mpr (Nat.le_succ _))
    · rw [lens, preSum_getD is is.length (Nat.le_refl _), List.take_length]
theorem k_sumV (K : PySem.W.Frag) (hK : X.K = K) (hc : X.calm = true) (hm : X.mg "sum" = none) (hd : SE CA X o td fd) (hg : Gl X "sum" := by rfl) (hbase : attributeBase o "values" X.env (eval o X.env) = eval o X.env := by rfl) (hline : (apos.endLine == mpos.line) = true := by rfl)
    (hse : starEach [Expr.Call (.Attribute o "values" apos) [] [] mpos] X.env = [(false, eval (Expr.Call (.Attribute o "values" apos) [] [] mpos) X.env)] := by rfl) :
    SE CA X (.Call (.Name "sum" p) [.Call (.Attribute o "values" apos) [] [] mpos] [] pos) (tSumV td) (xSumV fd) := ⟨pe_sumV hc hm hd.pe hg hbase hline hse, by
  intro s m u m' h ρ σ H Q r rs q
  obtain ⟨x, m1, e1, h⟩ := bd_inv h
  refine hd.so s m x m1 e1 ρ σ H _ r rs fun ρ1 v1 H1 p1 r1 rv1 => ?_
  cases x with
  | ref n =>
    obtain ⟨a, ha, rfl⟩ := rv1
    dsimp only at h
    cases g : m1.get n with
    | none => simp only [g] at h; cases h
    | some ob =>
      cases ob with
      | dK kvs =>
        simp only [g] at h
        cases e3 : ints? (kvs.map (·.2)) with
        | none => simp only [e3] at h; cases h
        | some ns =>
          simp only [e3] at h
          cases h
          obtain ⟨ws, e', r'⟩ := r1.at ha g
          exact ⟨a, ws, ns, rfl, e', vals_back r' (ints_of e3), q ρ1 _ H1 p1 r1 rfl⟩
      | _ => simp only [g] at h; cases h
  | _ => cases h⟩
end
end Sh
end

noncomputable section
namespace Sh
open PySem PySem.Spec PyProof.Rows L2
section
variable {CA : Cd} {X : Cx} {k j : Nat} {a b c d o e : Expr} {pos pos' p apos cpos mpos : Pos} {ta tb tc td te : TE} {fa fb fc fd fe : XE} {es : List Expr} {tr : TA} {fr : XA}
/-! ### d.update(e), e a dict of ints and texts -/
def tUpd (td te : TE) : TE := fun σ H Q => td σ H fun x H1 => ∃ a, x = V.ref a ∧ IsD H1 a ∧ te σ H1 fun y H2 => ∃ (b : Addr) (xs ys : List (Key × V)), y = .ref b ∧ H2 a = some (.dK xs) ∧ H2 b = some (.dK ys) ∧ a ≠ b ∧ xs.length + ys.length ≤ 1000 ∧ Q .non (upd H2 a (.dK (mergeK xs ys)))
theorem pe_upd (ho : PE X o td) (he : PE X e te) (m : M1 X o "update" apos e cpos) : PE X (.Call (.Attribute o "update" apos) [e] [] cpos) (tUpd td te) := by
  refine ⟨fun pins s σ H Q I h => ?_⟩
  refine wpAny_Call_method m.base m.few m.line PySem.F.plainAttrs_dict PySem.F.slot_dict_update PySem.F.type_dict_update (thn (ho.run pins s σ H _ I h) fun u s1 ⟨x, H1, I1, rx, q, ex, dq, q1⟩ => ?_)
  subst ex
  obtain rfl : u = Value.ref q := rx
  obtain ⟨t1, t2, _⟩ := isD_at I1 dq
  refine ⟨t1, t2, ?_⟩
  rw [m.trees]
  refine Calls.callWith_builtin rfl (Calls.evalArgs_plain (Calls.spliced_cons (thn (he.run pins s1 σ H1 _ I1 q1) fun iv s2 ⟨y, H2, I2, ry, b, xs, ys, ey, e1, e2, ne, hl, fin⟩ => Calls.spliced_nil ?_)))
  subst ey
  obtain rfl : iv = Value.ref b := ry
  obtain ⟨_, l1, vs, r1, d1⟩ := dk_of I2.hok e1
  obtain ⟨_, l2, ws, r2, d2⟩ := dk_of I2.hok e2
  refine call_meetsIn PySem.F.slot_dict_update d1.typeIs PySem.F.entry_dict_update (PySem.F.args_dict_update_2 _ _) (meets_dict_update (mixKind X.prog X.w) q b ne l2) ⟨vs, ws, d1, d2, ?_, fun h' g1 g2 same => ?_⟩
  · rw [← KV.length r1, ← KV.length r2, sizeLine_eq]
    omega
  · have hz : (mergeK xs ys).length ≤ sizeLine := by
      have := length_mergeK ys xs
      rw [sizeLine_eq]
      omega
    have he : ∃ z, h'.get? q = some z := let ⟨z, _, _, hz, _⟩ := g1; ⟨z, hz⟩
    exact ⟨.non, upd H2 q (.dK (mergeK xs ys)), d_write (t' := s2.toks) I2 (by rw [e1]; exact True.intro) same he (dk_new hz l1 (KV.merge r2 r1) g1), rfl, fin⟩
theorem merge_ok {ρ : List Addr} : ∀ {ys : List (Key × U)} {ws : List (Key × V)} {xs : List (Key × U)} {vs : List (Key × V)}, RKV ρ ys ws → RKV ρ xs vs → RKV ρ (ys.foldl (fun acc kv => putU acc kv.1 kv.2) xs) (mergeK vs ws)
  | _, _, _, _, .nil, r => r
  | p :: ys, q :: ws, xs, vs, .cons r rr, r0 => by
    show RKV ρ (ys.foldl _ (putU xs p.1 p.2)) (mergeK (putK vs q.1 q.2) ws)
    refine merge_ok rr ?_
    rw [r.1]
    exact putU_ok r.2 r0
theorem k_upd (K : PySem.W.Frag) (hK : X.K = K) (hr : Room k X.A) (hc : X.calm = true) (ho : SE CA X o td fd) (he : SE CA X e te fe) (m : M1 X o "update" apos e cpos := by exact ⟨rfl, rfl, rfl, rfl⟩) : SE CA X (.Call (.Attribute o "update" apos) [e] [] cpos) (tUpd td te) (xUpd fd fe) := ⟨pe_upd ho.pe he.pe m, by
  intro s m u m' h ρ σ H Q r rs q
  obtain ⟨x, m1, e1, h⟩ := bd_inv h
  obtain ⟨cD, h⟩ := cond_inv h
  obtain ⟨y, m2, e2, h⟩ := bd_inv h
  cases x with
  | ref i =>
    cases y with
    | ref n =>
      dsimp only at h
      cases g : m2.get i with
      | none => simp only [g] at h; cases h
      | some ob =>
        cases ob with
        | dK xs =>
          simp only [g] at h
          cases g2 : m2.get n with
          | none => simp only [g2] at h; cases h
          | some ob =>
            cases ob with
            | dK ys =>
              simp only [g2] at h
              obtain ⟨hf, h⟩ := cond_inv h
              obtain ⟨h1, h2⟩ := Bool.and_eq_true_iff.mp hf
              cases h
              have h2 := Nat.le_of_ble_eq_true h2
              have ne : i ≠ n := fun z => by subst z; rw [Nat.beq_refl] at h1; cases h1
              refine ho.so s m _ m1 e1 ρ σ H _ r rs fun ρ1 v1 H1 p1 r1 rv1 => ?_
              obtain ⟨a0, ev, hD⟩ := isDic_ok r1 cD rv1
              obtain ⟨a1, ha1, rfl⟩ := rv1
              cases ev
              refine ⟨a0, rfl, hD, ?_⟩
              · refine he.so s m1 _ m2 e2 ρ1 σ H1 _ r1 (rs.mono p1) fun ρ2 v2 H2 p2 r2 rv2 => ?_
                obtain ⟨a2, ha2, rfl⟩ := rv2
                obtain ⟨vs, ea, rx⟩ := r2.at (at_mono p2 ha1) g
                obtain ⟨ws, eb, ry⟩ := r2.at ha2 g2
                refine ⟨a2, vs, ws, rfl, ea, eb, fun z => ?_, ?_, q ρ2 _ _ (p1.trans p2) (r2.putK (at_mono p2 ha1) g ea (merge_ok ry rx)) rfl⟩
                · subst z
                  exact ne (r2.inj i n a0 _ _ (at_mono p2 ha1) ha2 g g2 rfl rfl)
                · rw [← Paired.length rx, ← Paired.length ry]
                  exact h2
            | _ => simp only [g2] at h; cases h
        | _ => simp only [g] at h; cases h
    | _ => cases h
  | _ => cases h⟩
/-! ### sorted(d, reverse=True), ints as keys -/
def rSrtD : List V → List V → Hp → VK → Prop := fun vs zs H Q => zs = [.bl true] ∧ ∃ (a : Addr) (kvs : List (Key × V)) (ks : List Int), vs = [V.ref a] ∧ H a = some (.dK kvs) ∧ kvs.map (·.1) = ks.map Sum.inl ∧ ks.length < 64 ∧
  ∀ (ys : List Int) (p : Addr), ys.Perm ks → ys.Pairwise (· ≥ ·) → H p = none → Q (.ref p) (upd H p (.lst (ys.map V.int)))
theorem cr_srtD (hcalm : X.calm = true) : CallRK X (.builtin "sorted") [Str.ofString "reverse"] rSrtD := by
  intro pins s σ H xs zs us ws Q I r rz h
  obtain ⟨rfl, q, kvs, ks, rfl, hd, hks, h64, fin⟩ := h
  obtain rfl := Vals.ref1 r
  obtain ⟨w1, rfl, e1⟩ := vals1 rz
  obtain rfl : w1 = Value.bool true := e1
  obtain ⟨z, lo, vs, rel, dd⟩ := dk_of I.hok hd
  obtain ⟨ep, hat⟩ := dd.dictAt
  have hkeys : vs.map (·.1) = ks.map Sum.inl := rel.keys.symm.trans hks
  have hl : vs.length = ks.length := by simpa using congrArg List.length hkeys
  have h16 : vs.length ≤ sizeLine := by rw [hl, sizeLine_eq]; omega
  refine call_function_entry_kw PyProof.Rows.kind_sorted PyProof.Rows.plain_sorted PyProof.Rows.entry_sorted (PyProof.Rows.args_sorted_rev _ _) ?_
  unfold Builtin.«sorted»
  refine wpAny_bind (m := checkCount "sorted" 1 1 _) (wpAny_pure ?_)
  refine wpAny_bind (PySem.W.kdu_collect (A := X.A.in1) (PySem.W.kdl_dict (knd := mixKind X.prog X.w) (kvs := vs) (ep := ep) lo) (I.ok.hd hcalm) hat h16 fun hp tk acc up got => ?_)
  have hal : acc.toList.length = ks.length := by rw [Array.length_toList, got.1, hl]
  have hS : IntsAre acc.toList ks := ints_each hal fun n v e => by
    obtain ⟨kk, x, g1, g2⟩ := got.2 n v (by rw [← Array.getElem?_toList]; exact e)
    have g3 : (vs.map (·.1))[n]? = some kk := by rw [List.getElem?_map, g1]; rfl
    rw [hkeys, List.getElem?_map] at g3
    obtain ⟨y, hy, e5⟩ := Option.map_eq_some_iff.mp g3
    subst e5
    rcases keyIs_shape (show keyIs (Sum.inl y) v = true from g2) with ⟨i, t, ek, ev⟩ | ⟨z, t, ek, ev⟩
    · cases ek; exact ⟨y, t, hy, ev⟩
    · cases ek
  have I1 : Inv X pins σ H { s with heap := hp, toks := tk } := I.kept up
  have hzl : acc.toList.length ≤ sizeLine := by rw [hal, sizeLine_eq]; omega
  refine wpAny_bind (wpAny_newList ?_ hzl)
  generalize hL : hp.push (seqObj "list" acc.toList.toArray 0) = h2
  have at2 : h2.get? hp.objs.size = some (seqObj "list" acc.toList.toArray 0) := by rw [← hL]; exact Heap.get?_push_size _ rfl
  have up2 : ∀ b u, hp.get? b = some u → h2.get? b = some u := fun b u e => by rw [← hL]; exact Heap.get?_push_of_some _ e
  have z2 : h2.objs.size = hp.objs.size + 1 := by rw [← hL]; exact size_push' _ _
  have go : wpAny (model X.prog X.w) X.A.in1 (call (.builtin "list.sort") [.ref hp.objs.size] [(Str.ofString "reverse", .bool true)]) (fun _ s' => EP X pins σ Q (.ref hp.objs.size) s') X.xe { s with heap := h2, toks := tk } := by
    refine wpAny_call_entry_kw PyProof.Rows.slot_list_sort ⟨_, at2, rfl⟩ PyProof.Rows.entry_list_sort (SrtR.list_sort_ordR (s := { s with heap := h2, toks := tk }) SrtO.swo_int at2 hzl (fun h2' => SrtO.ints_sortable hS h2') fun out k1 k2 => ⟨_, rfl, ?_⟩) (PyProof.Rows.args_list_sort_rev _ _)
    obtain ⟨ys, g1, g2, g3⟩ := SrtR.ints_outR hS k1 k2
    obtain ⟨e', he'⟩ := PyProof.Rows.sortedHeap_at (vs := acc.toList) (out := if true = true then out.toArray.reverse else out.toArray) at2
    have hlen : (ys.map V.int).length ≤ sizeLine := by rw [List.length_map, g2.length_eq, sizeLine_eq]; omega
    refine ⟨.ref hp.objs.size, upd H hp.objs.size (.lst (ys.map V.int)), I1.laid (t' := tk) (fun b u e => ?_) (Nat.le_refl _) (show ObjOk X.prog X.w _ _ _ (.lst (ys.map V.int)) from ⟨hlen, _, e', vals_of_ints g1, by rw [Array.toArray_toList]; exact he'⟩), rfl, fin ys _ g2 g3 (I1.hok.fresh (Nat.le_refl _))⟩
    have hb : b < hp.objs.size := Heap.lt_size e
    rw [PyProof.Rows.sortedHeap_old (Nat.ne_of_lt hb) (by rw [z2]; exact Nat.lt_succ_of_lt hb)]
    exact up2 b u e
  show wpAny _ _ _ _ _ { s with heap := h2, toks := tk }
  exact wpAny_bind (wpAny_holding (wpAny_mono go (fun _ s' x => wpAny_pure ⟨_, rfl, x⟩) fun _ _ e => e))
theorem insD_perm (i : Int) : ∀ l : List Int, (insD i l).Perm (i :: l)
  | [] => List.Perm.refl _
  | j :: r => by
    unfold insD
    cases decide (j ≤ i) with
    | true => exact List.Perm.refl _
    | false => exact ((insD_perm i r).cons j).trans (List.Perm.swap i j r)
theorem srtD_perm : ∀ l : List Int, (srtD l).Perm l
  | [] => List.Perm.refl _
  | i :: r => (insD_perm i _).trans ((srtD_perm r).cons i)
theorem insD_pw (i : Int) : ∀ l : List Int, l.Pairwise (· ≥ ·) → (insD i l).Pairwise (· ≥ ·)
  | [], _ => by simp [insD]
  | j :: r, h => by
    unfold insD
    obtain ⟨h1, h2⟩ := List.pairwise_cons.mp h
    by_cases e : j ≤ i
    · rw [decide_eq_true e]
      refine List.pairwise_cons.mpr ⟨fun x hx => ?_, h⟩
      rcases List.mem_cons.mp hx with rfl | hx
      · exact e
      · have := h1 x hx; omega
    · rw [decide_eq_false e]
      refine List.pairwise_cons.mpr ⟨fun x hx => ?_, insD_pw i r h2⟩
      rcases List.mem_cons.mp ((insD_perm i r).mem_iff.mp hx) with rfl | hx
      · omega
      · exact h1 x hx
theorem srtD_pw : ∀ l : List Int, (srtD l).Pairwise (· ≥ ·)
  | [] => .nil
  | i :: r => insD_pw i _ (srtD_pw r)
theorem desc_one : ∀ {a b : List Int}, a.Perm b → a.Pairwise (· ≥ ·) → b.Pairwise (· ≥ ·) → a = b := fun {a b} p ha hb => p.eq_of_pairwise (fun x y _ _ h1 h2 => by omega) ha hb
theorem ints_fwd (ρ : List Addr) : ∀ ns : List Int, RVs ρ (ns.map U.int) (ns.map V.int)
  | [] => .nil
  | n :: ns => .cons rfl (ints_fwd ρ ns)
theorem keysI_ok {ρ : List Addr} : ∀ {kvs : List (Key × U)} {ns : List Int} {ws : List (Key × V)}, keysI kvs = some ns → RKV ρ kvs ws → ws.map (·.1) = ns.map Sum.inl
  | [], ns, _, h, .nil => by cases h; rfl
  | (.inl i, u) :: r, ns, _, h, .cons (b := q) rr rt => by
    unfold keysI at h
    cases e : keysI r with
    | none => simp only [e] at h; cases h
    | some ms =>
      simp only [e] at h
      cases h
      rw [List.map_cons, List.map_cons, keysI_ok e rt, ← rr.1]
  | (.inr i, u) :: r, ns, _, h, .cons rr rt => by cases h
theorem k_srtD (K : PySem.W.Frag) (hK : X.K = K) (hr : Room k X.A) (hc : X.calm = true) (hm : X.mg "sorted" = none) {kw : Keyword} (hd : SE CA X o td fd) (hk : PK X [kw] (tCons (tC (.bl true)) tNil)) (hg : Gl X "sorted" := by rfl) (hs0 : starEach [o] X.env = (false, eval o X.env) :: starEach [] X.env := by rfl)
    (he : backTo pos (starEach [o] X.env) = [(false, eval o X.env)] := by rfl) (hpl : (backTo pos (starEach [o] X.env)).any (·.1) = false := by rfl)
    (hall : (backToKw pos (keywordEach [kw] X.env)).all (·.1.isSome) = true := by rfl) (hnone : (backToKw pos (keywordEach [kw] X.env)).any (·.1.isNone) = false := by rfl) (hks : (backToKw pos (keywordEach [kw] X.env)).filterMap (·.1) = [Str.ofString "reverse"] := by rfl) :
    SE CA X (.Call (.Name "sorted" p) [o] [kw] pos) (tCKw rSrtD (tCons td tNil) (tCons (tC (.bl true)) tNil)) (xSrtD fd) := ⟨pe_callBK (cr_srtD hc) hg hm boot_sorted (pa_cons hd.pe pa_nil hs0) hk (by decide) (by decide) he hpl hall hnone hks, by
  intro s m u m' h ρ σ H Q r rs q
  obtain ⟨x, m1, e1, h⟩ := bd_inv h
  refine hd.so s m x m1 e1 ρ σ H _ r rs fun ρ1 v1 H1 p1 r1 rv1 => ?_
  cases x with
  | ref n =>
    obtain ⟨a, ha, rfl⟩ := rv1
    dsimp only at h
    cases g : m1.get n with
    | none => simp only [g] at h; cases h
    | some ob =>
      cases ob with
      | dK kvs =>
        simp only [g] at h
        cases e3 : keysI kvs with
        | none => simp only [e3] at h; cases h
        | some ns =>
          simp only [e3] at h
          obtain ⟨hf, h⟩ := cond_inv h
          obtain ⟨ws, e', r'⟩ := r1.at ha g
          refine ⟨rfl, a, ws, ns, rfl, e', keysI_ok e3 r', blt_lt hf, fun ys pp hp hw hn => ?_⟩
          have ey : ys = srtD ns := desc_one (hp.trans (srtD_perm ns).symm) hw (srtD_pw ns)
          subst ey
          obtain ⟨r2, rv2⟩ := alloc_ok (w := .lst ((srtD ns).map V.int)) r1 h hn (new_lst (ints_fwd ρ1 (srtD ns)))
          exact q _ _ _ (p1.trans (pre_snoc ρ1 pp)) r2 rv2
      | _ => simp only [g] at h; cases h
  | _ => cases h⟩
end
end Sh
end

noncomputable section
namespace Sh
open PySem PySem.Spec PyProof.Rows L2
section
variable {CA : Cd} {X : Cx} {k j : Nat} {a b c d o e : Expr} {pos pos' p apos cpos mpos : Pos} {ta tb tc td te : TE} {fa fb fc fd fe : XE} {es : List Expr} {tr : TA} {fr : XA}
/-! ### sorted(xs), rows of data -/
def rSrtG (K : PySem.W.Frag) : List V → Hp → VK → Prop := fun vs H Q => ∃ (l : Addr) (bs : List (V × PyData)), vs = [.ref l] ∧ SqL K H l (bs.map (·.1)) ∧ (∀ b ∈ bs, Dp K H b.1 b.2) ∧ PySem.W.AllAlike (bs.map (·.2)) ∧ PySem.W.Sortable (bs.map (·.2)) ∧ (∀ b ∈ bs, b.2.depth ≤ 10) ∧ bs.length ≤ 1000 ∧
  ∀ p, H p = none → Q (.ref p) (upd H p (.lst ((bs.mergeSort (PySem.W.dataLe false fun b : V × PyData => b.2)).map (·.1))))
theorem each_rel : ∀ {bs : List (V × PyData)} {its : List Value}, Vals (bs.map (·.1)) its → PySem.W.EachIs (fun v (b : V × PyData) => RelV b.1 v) its bs
  | [], _, .nil => .nil
  | _ :: _, _, .cons r rr => .cons r (each_rel rr)
theorem each_vals : ∀ {bs : List (V × PyData)} {its : List Value}, PySem.W.EachIs (fun v (b : V × PyData) => RelV b.1 v) its bs → Vals (bs.map (·.1)) its
  | _, _, .nil => .nil
  | _, _, .cons r rr => .cons r (each_vals rr)
theorem cr_srtG (hr : Room k X.A) : CallR X (.builtin "sorted") (rSrtG X.K) := by
  intro pins s σ H vs us Q I r h
  obtain ⟨l, bs, rfl, hs, hD, hal, hso, hdp, hlen, fin⟩ := h
  obtain ⟨its, rv, hl, hz⟩ := I.list hs
  rw [Vals.ref1 r]
  have e := each_rel rv
  have er : PySem.W.EachIs (fun v (b : V × PyData) => ∃ as, Reads s.heap v b.2 as) its bs := (PySem.W.each_mem e).mono fun v b ⟨rb, hb⟩ => Dp.reads I b.2 b.1 v (hD b hb) rb
  have hun := hr.un
  refine PySem.W.sorted_data (enc := fun b : V × PyData => b.2) hl.isList e er hal hso (by rw [sizeLine_eq]; omega) (fun b hb => by have := hdp b hb; omega) fun out ho eo => ?_
  obtain ⟨ep, he'⟩ := PyProof.Rows.sortedAll_at s.heap its out.toArray
  have hz2 : ((bs.mergeSort (PySem.W.dataLe false fun b : V × PyData => b.2)).map (·.1)).length ≤ sizeLine := by rw [List.length_map, List.length_mergeSort, sizeLine_eq]; omega
  exact ⟨.ref (s.heap.objs.size + 1), upd H (s.heap.objs.size + 1) (.lst _), I.laid (t' := s.toks) (fun _ _ => PyProof.Rows.sortedAll_old) (Nat.le_succ _) ⟨hz2, out, ep, each_vals eo, he'⟩, rfl, fin _ (I.hok.fresh (Nat.le_succ _))⟩
theorem srt_two {α : Type} (le : α → α → Bool) (x y : α) : [x, y].mergeSort le = if le x y = true then [x, y] else [y, x] := by
  unfold List.mergeSort
  simp [List.MergeSort.Internal.splitInTwo, List.merge]
theorem srt_one {α : Type} (le : α → α → Bool) (x : α) : [x].mergeSort le = [x] := by simp
theorem tupOnly_inv {W : Wd} {ρ : List Addr} {m : Mem} {H : Hp} {u : U} {xs : List U} {v : V} (r : R W ρ m H) (h : tupOnly m u = some xs) (rv : RV ρ u v) : ∃ (q : Addr) (vs : List V), v = .ref q ∧ H q = some (.tup vs) ∧ RVs ρ xs vs := by
  cases u with
  | ref n =>
    obtain ⟨q, hq, rfl⟩ := rv
    unfold tupOnly at h
    cases g : m.get n with
    | none => simp only [g] at h; cases h
    | some ob =>
      cases ob with
      | tup ys =>
        simp only [g] at h
        cases h
        obtain ⟨vs, e, r'⟩ := r.at hq g
        exact ⟨q, vs, rfl, e, r'⟩
      | _ => simp only [g] at h; cases h
  | _ => cases h
theorem two_inv {α : Type} : ∀ {xs : List α} {a b : α}, two xs = some (a, b) → xs = [a, b]
  | [], _, _, h => by cases h
  | [_], _, _, h => by cases h
  | [_, _], _, _, h => by cases h; rfl
  | _ :: _ :: _ :: _, _, _, h => by cases h
/-- a tracked pair of ints -/
def Pr2 (H : Hp) (v : V) (d : PyData) : Prop := ∃ (q : Addr) (i j : Int), v = .ref q ∧ H q = some (.tup [.int i, .int j]) ∧ d = .tuple [.int i, .int j]
def Pr4 (H : Hp) (v : V) (d : PyData) : Prop := ∃ (q : Addr) (x y : V) (p r : PyData), v = .ref q ∧ H q = some (.tup [x, y]) ∧ Pr2 H x p ∧ Pr2 H y r ∧ d = .tuple [p, r]
theorem pr2_ok {W : Wd} {ρ : List Addr} {m : Mem} {H : Hp} {u : U} {d : PyData} {v : V} (r : R W ρ m H) (h : pr2 m u = some d) (rv : RV ρ u v) : Pr2 H v d := by
  unfold pr2 at h
  cases e1 : tupOnly m u with
  | none => simp only [e1] at h; cases h
  | some xs =>
    simp only [e1] at h
    cases e2 : ints? xs with
    | none => simp only [e2] at h; cases h
    | some ns =>
      simp only [e2] at h
      cases e3 : two ns with
      | none => simp only [e3] at h; cases h
      | some z =>
        obtain ⟨i, n⟩ := z
        simp only [e3] at h
        cases h
        obtain ⟨q, vs, rfl, e, r'⟩ := tupOnly_inv r e1 rv
        have ex := ints_of e2
        subst ex
        have ev := ints_back r'
        rw [two_inv e3] at ev
        rw [ev] at e
        exact ⟨q, i, n, rfl, e, rfl⟩
theorem pr4_ok {W : Wd} {ρ : List Addr} {m : Mem} {H : Hp} {u : U} {d : PyData} {v : V} (r : R W ρ m H) (h : pr4 m u = some d) (rv : RV ρ u v) : Pr4 H v d := by
  unfold pr4 at h
  cases e1 : tupOnly m u with
  | none => simp only [e1] at h; cases h
  | some xs =>
    simp only [e1] at h
    cases e2 : two xs with
    | none => simp only [e2] at h; cases h
    | some z =>
      obtain ⟨x, y⟩ := z
      simp only [e2] at h
      cases e3 : pr2 m x with
      | none => simp only [e3] at h; cases h
      | some p =>
        simp only [e3] at h
        cases e4 : pr2 m y with
        | none => simp only [e4] at h; cases h
        | some q2 =>
          simp only [e4] at h
          cases h
          obtain ⟨q, vs, rfl, e, r'⟩ := tupOnly_inv r e1 rv
          have ex := two_inv e2
          subst ex
          match vs, r' with
          | [vx, vy], .cons rx (.cons ry .nil) => exact ⟨q, vx, vy, p, q2, rfl, e, pr2_ok r e3 rx, pr2_ok r e4 ry, rfl⟩
theorem Pr2.dp {K : PySem.W.Frag} {H : Hp} {v : V} {d : PyData} (h : Pr2 H v d) : Dp K H v d := by
  obtain ⟨q, i, n, rfl, e, rfl⟩ := h
  exact .tup (.inl (.inl e)) (.cons (.int i) (.cons (.int n) .nil))
theorem Pr4.dp {K : PySem.W.Frag} {H : Hp} {v : V} {d : PyData} (h : Pr4 H v d) : Dp K H v d := by
  obtain ⟨q, x, y, p, r, rfl, e, h1, h2, rfl⟩ := h
  exact .tup (.inl (.inl e)) (.cons h1.dp (.cons h2.dp .nil))
theorem Pr2.alike {H H' : Hp} {v v' : V} {d d' : PyData} (h : Pr2 H v d) (h' : Pr2 H' v' d') : PySem.W.alike d d' = true := by
  obtain ⟨_, _, _, _, _, rfl⟩ := h
  obtain ⟨_, _, _, _, _, rfl⟩ := h'
  simp [PySem.W.alike, PySem.W.alikeAll]
theorem Pr4.alike {H H' : Hp} {v v' : V} {d d' : PyData} (h : Pr4 H v d) (h' : Pr4 H' v' d') : PySem.W.alike d d' = true := by
  obtain ⟨_, _, _, _, _, _, _, h1, h2, rfl⟩ := h
  obtain ⟨_, _, _, _, _, _, _, h3, h4, rfl⟩ := h'
  simp [PySem.W.alike, PySem.W.alikeAll, h1.alike h3, h2.alike h4]
theorem Pr4.shape {H : Hp} {v : V} {d : PyData} (h : Pr4 H v d) : (∃ x r, d = .tuple (x :: r)) ∧ d.depth ≤ 10 := by
  obtain ⟨_, _, _, _, _, _, _, ⟨_, _, _, _, _, rfl⟩, ⟨_, _, _, _, _, rfl⟩, rfl⟩ := h
  exact ⟨⟨_, _, rfl⟩, by simp [PyData.depth, PyData.depthAll]⟩
theorem srtG_of {K : PySem.W.Frag} {H : Hp} {l : Addr} {bs : List (V × PyData)} {Q : VK} (hs : SqL K H l (bs.map (·.1))) (h4 : ∀ b ∈ bs, Pr4 H b.1 b.2) (hl : bs.length ≤ 1000)
    (q : ∀ p, H p = none → Q (.ref p) (upd H p (.lst ((bs.mergeSort (PySem.W.dataLe false fun b : V × PyData => b.2)).map (·.1))))) : rSrtG K [.ref l] H Q := by
  refine ⟨l, bs, rfl, hs, fun b hb => (h4 b hb).dp, ?_, .inl ?_, fun b hb => (h4 b hb).shape.2, hl, q⟩
  · intro d hd d' hd'
    obtain ⟨b, hb, rfl⟩ := List.mem_map.mp hd
    obtain ⟨b', hb', rfl⟩ := List.mem_map.mp hd'
    exact (h4 b hb).alike (h4 b' hb')
  · intro d hd
    obtain ⟨b, hb, rfl⟩ := List.mem_map.mp hd
    exact (h4 b hb).shape.1
theorem k_srt4 (K : PySem.W.Frag) (hK : X.K = K) (hr : Room k X.A) : SC CA X (.builtin "sorted") (rSrtG K) (f1 gSrt4) := by
  subst hK
  refine ⟨cr_srtG hr, soc1 ?_⟩
  intro x m u m' h ρ vx H Q r rx q
  unfold gSrt4 at h
  cases e1 : lstAt m x with
  | none => simp only [e1] at h; cases h
  | some xs =>
    simp only [e1] at h
    obtain ⟨n, a, vs, rfl, rfl, ha, g, e, r1⟩ := lstAt_inv r e1 rx
    match xs, h, r1 with
    | [], h, .nil =>
      refine srtG_of (bs := []) (.inl (.inl e)) (fun b hb => nomatch hb) (by simp) fun p hp => ?_
      obtain ⟨r2, rv2⟩ := alloc_ok (w := .lst []) r h hp (new_lst .nil)
      simpa using q _ _ _ (pre_snoc ρ p) r2 rv2
    | [x1], h, .cons (b := v1) rx1 .nil =>
      cases e2 : pr4 m x1 with
      | none => simp only [e2] at h; cases h
      | some d1 =>
        simp only [e2] at h
        have p1 := pr4_ok r e2 rx1
        refine srtG_of (bs := [(v1, d1)]) (.inl (.inl e)) (fun b hb => by rw [List.mem_singleton.mp hb]; exact p1) (by simp) fun p hp => ?_
        obtain ⟨r2, rv2⟩ := alloc_ok (w := .lst [v1]) r h hp (new_lst (.cons rx1 .nil))
        rw [srt_one]
        exact q _ _ _ (pre_snoc ρ p) r2 rv2
    | [x1, x2], h, .cons (b := v1) rx1 (.cons (b := v2) rx2 .nil) =>
      cases e2 : pr4 m x1 with
      | none => simp only [e2] at h; cases h
      | some d1 =>
        simp only [e2] at h
        cases e3 : pr4 m x2 with
        | none => simp only [e3] at h; cases h
        | some d2 =>
          simp only [e3] at h
          have p1 := pr4_ok r e2 rx1
          have p2 := pr4_ok r e3 rx2
          refine srtG_of (bs := [(v1, d1), (v2, d2)]) (.inl (.inl e)) (fun b hb => ?_) (by simp) fun p hp => ?_
          · rcases List.mem_cons.mp hb with rfl | hb
            · exact p1
            · rw [List.mem_singleton.mp hb]; exact p2
          · rw [srt_two]
            have el : PySem.W.dataLe false (fun b : V × PyData => b.2) (v1, d1) (v2, d2) = !PySem.W.dataLt d2 d1 := rfl
            rw [el]
            cases ed : PySem.W.dataLt d2 d1 with
            | true =>
              rw [ed] at h
              obtain ⟨r2, rv2⟩ := alloc_ok (w := .lst [v2, v1]) r h hp (new_lst (.cons rx2 (.cons rx1 .nil)))
              exact q _ _ _ (pre_snoc ρ p) r2 rv2
            | false =>
              rw [ed] at h
              obtain ⟨r2, rv2⟩ := alloc_ok (w := .lst [v1, v2]) r h hp (new_lst (.cons rx1 (.cons rx2 .nil)))
              exact q _ _ _ (pre_snoc ρ p) r2 rv2
    | _ :: _ :: _ :: _, h, _ => cases h
end
end Sh
end

noncomputable section
namespace Sh
open PySem PySem.Spec PyProof.Rows L2
section
variable {CA : Cd} {X : Cx} {k j : Nat} {a b c d o e iter : Expr} {pos pos' p apos cpos mpos : Pos} {ta tb tc td te : TE} {fa fb fc fd fe : XE} {es : List Expr} {tr : TA} {fr : XA}
/-! ### sorted({x: True for x in xs}), xs of one pair of pairs: the library's dicts have no such keys, so the dict stands as a thing of our own -/
/-- a dict at D that has one key, the thing at q -/
def Phi (D q : Addr) : Heap → Prop := fun h => (D == sysModules) = false ∧ ∃ es ep, h.DictRaw D es ep ∧ es.toList.map (·.key) = [Value.ref q]
theorem nk2 {H : Hp} {s : Shared} {pins : List (Addr × Obj)} {σ : L2.St} {v : V} {r : PyData} {u : Value} (I : Inv X pins σ H s) (h : Pr2 H v r) (rv : RelV v u) : ∃ x y : Int, NestedIs s.heap (.tup [.num x, .num y]) u := by
  obtain ⟨q, x, y, rfl, e, _⟩ := h
  obtain rfl : u = Value.ref q := rv
  obtain ⟨_, its, r2, ob, ho, hc, n, hd⟩ := I.hok q _ e
  obtain ⟨u1, u2, rfl, ⟨t1, rfl⟩, ⟨t2, rfl⟩⟩ := vals2 r2
  exact ⟨x, y, .tup ho hc hd (.cons (.int x t1) (.cons (.int y t2) .nil))⟩
theorem nk4 {H : Hp} {s : Shared} {pins : List (Addr × Obj)} {σ : L2.St} {q : Addr} {r : PyData} (I : Inv X pins σ H s) (h : Pr4 H (.ref q) r) : ∃ kk, (nestedKind X.prog X.w).is s.heap kk q := by
  obtain ⟨q', vx, vy, dx, dy, eq, e, h1, h2, _⟩ := h
  cases eq
  obtain ⟨_, its, r2, ob, ho, hc, n, hd⟩ := I.hok q _ e
  obtain ⟨u1, u2, rfl, k1, k2⟩ := vals2 r2
  obtain ⟨x, y, n1⟩ := nk2 I h1 k1
  obtain ⟨z, w, n2⟩ := nk2 I h2 k2
  refine ⟨.tup [.tup [.num x, .num y], .tup [.num z, .num w]], .tup ho hc hd (.cons n1 (.cons n2 .nil)), ?_⟩
  simp [NestedKey.depth, NestedKey.depthAll]
/-- D[q] = v, D empty -/
theorem one_set {pins : List (Addr × Obj)} {σ : L2.St} {H : Hp} {s : Shared} {E : Value → Shared → Prop} {D q : Addr} {r : PyData} {w : Value} {Q : Unit → Shared → Prop} (hu : X.A.units + 8 < cLine) (I : Inv X pins σ H s) (hD : H D = some (.dK [])) (hq : Pr4 H (.ref q) r)
    (h : ∀ s', Inv X pins σ (upd H D (.ext (Phi D q))) s' → Q () s') : wpAny (model X.prog X.w) X.A (dictSet D (.ref q) w) Q E s := by
  obtain ⟨_, lo, vs, rel, dd⟩ := dk_of I.hok hD
  cases rel
  obtain ⟨ob, es, ep, ho, hc, hd, _, hp, _⟩ := dd
  have h0 : es = #[] := by
    have := hp.length
    exact Array.eq_empty_of_size_eq_zero (by simpa using this)
  subst h0
  obtain ⟨kk, hk⟩ := nk4 I hq
  have dh : s.heap.DictOfH (nestedKind X.prog X.w) D [] := ⟨ob, #[], ep, ho, hc, hd, rfl, (fun x hx => by cases hx), List.nodup_nil⟩
  refine wpAny_dictSet_heap (knd := nestedKind X.prog X.w) (hsz := Nat.zero_le _) hu hk dh fun h' dd' same => h _ ?_
  obtain ⟨ob', es', ep', ho', hc', hd', he', _, _⟩ := dd'
  have raw : h'.DictRaw D es' ep' := ⟨ob', ho', hc', hd'⟩
  have keys : es'.toList.map (·.key) = [Value.ref q] := by rw [he']; rfl
  refine d_write I (by rw [hD]; exact True.intro) same ⟨ob', ho'⟩ ⟨⟨lo, es', ep', raw, keys⟩, ⟨ob', ho'⟩, ?_⟩
  rintro g1 g2 ⟨l, es2, ep2, ⟨ob2, e1, e2, e3⟩, e4⟩ up
  exact ⟨l, es2, ep2, ⟨ob2, up _ e1, e2, e3⟩, e4⟩
def tDc1 (K : PySem.W.Frag) (te : TE) : TE := fun σ H Q => iTup K te σ H fun J H1 => ∃ (c q : Addr) (r : PyData), J = Itt K c ∧ SqT K H1 c [.ref q] ∧ Pr4 H1 (.ref q) r ∧ ∀ D, H1 D = none → Q (.ref D) (upd H1 D (.ext (Phi D q)))
theorem pe_dc1 {x : Str} {i : Nat} {scope : Scope} {p1 p2 p3 : Pos} {cj : Nat} (hr : Room k X.A) (hc : X.calm = true) (hN : X.N.Nodup) (he : PE X iter te) (ok : BlkOk X.N X.env.scope scope [(x, i)])
    (rg : Blk X scope fun X' => PG X' (.Name x p3) (gName i)) (rk : Blk X scope fun X' => PE X' (.Name x p1) (tVar i)) (hs : ∀ v, foldedSetIterable iter X.env v = pure v) (hil : i < X.N.length) :
    PE X (.DictComp (.Name x p1) (.Constant (.bool true) cj p2) [⟨.Name x p3, iter, [], 0⟩] scope pos) (tDc1 X.K te) := by
  refine ⟨fun pins s σ H Q I h => ?_⟩
  rw [arm_eval_DictComp]
  have frees : ∀ y ∈ scope.names, y.2 = .free → ∃ c, X.env.cells.lookup y.1 = some c := fun y hy e => (ok.free y hy e).elim (fun z => I.ok.has _ (.inl z)) fun z => I.ok.has _ (.inr z)
  refine wpAny_comprehension_free (use := none) rfl hs (closure_ok frees) ok.kind (fun y hy e => by rw [ok.uniq y hy, e]) (thn ((pi_tup (tg := .Name x p3) he).run pins s σ H _ I h) fun xv s1 hx => thn hx fun itv s2 got => ?_)
  obtain ⟨it, fp, tn, J, Ha, rfl, Ia, T, turn0, apart, cc, q, r, rfl, hcq, hpq, fin⟩ := got
  refine wpAny_newObj_type (newEnv_comp ?_)
  generalize hDe : s2.heap.objs.size = D
  have freeD : Ha D = none := Ia.hok.fresh (Nat.le_of_eq hDe)
  generalize hse : ({ s2 with heap := s2.heap.push { cls := .type "dict", data := .dict #[] } } : Shared) = sa
  generalize hGe : upd Ha D (.dK []) = G
  have Ib : Inv X pins σ G sa := by
    rw [← hse, ← hGe]
    exact Ia.laid (t' := s2.toks) (fun b o e => Heap.get?_push_of_some _ e) (Nat.le_of_eq hDe) (by rw [← hDe]; exact dk_empty s2.heap Ia.big)
  have heapa : sa.heap = s2.heap.push { cls := .type "dict", data := .dict #[] } := by rw [← hse]
  have upa : ∀ b o, s2.heap.get? b = some o → sa.heap.get? b = some o := fun b o e => by rw [heapa]; exact Heap.get?_push_of_some _ e
  have offD : ∀ b ∈ fp, b ≠ D := fun b hb => by
    obtain ⟨o, e, _⟩ := T.obj _ _ turn0 b hb
    rw [← hDe]
    exact Nat.ne_of_lt (Heap.lt_size e)
  have noneG : ∀ b ∈ fp, G b = none := fun b hb => by rw [← hGe, upd_ne (offD b hb)]; exact (apart b hb).1
  have apartG : ∀ b ∈ fp, FpOk X pins G b ∧ b < sa.heap.objs.size := fun b hb => by
    obtain ⟨o, e, _⟩ := T.obj _ _ turn0 b hb
    exact ⟨⟨noneG b hb, (apart b hb).2⟩, Heap.lt_size (upa b o e)⟩
  have Ic := block_start Ib ok hN apartG
  have rg1 := rg sa G sa.heap.objs.size (cellsFrom (sa.heap.objs.size + 1) scope.names (cloFrom X.env.cells scope.names [])) fp
  have rk1 := rk sa G sa.heap.objs.size (cellsFrom (sa.heap.objs.size + 1) scope.names (cloFrom X.env.cells scope.names [])) fp
  show codeAny _ _ (.compStart (.DictComp (.Name x p1) (.Constant (.bool true) cj p2) [⟨.Name x p3, iter, [], 0⟩] scope pos) 0 (.ref it) (.ref D) (compEnvC scope (cellsFrom (sa.heap.objs.size + 1) scope.names (cloFrom X.env.cells scope.names [])) sa.heap.objs.size X.env))
    (compPost (model X.prog X.w) X.A X.xe none _ (.ref D) sa.heap.objs.size) { sa with heap := pushCells (sa.heap.push { cls := .type "dict", data := .dict #[] }) scope.names }
  generalize hce : compEnvC scope (cellsFrom (sa.heap.objs.size + 1) scope.names (cloFrom X.env.cells scope.names [])) sa.heap.objs.size X.env = ce at Ic rg1 rk1 ⊢
  have locC : ce.locals = sa.heap.objs.size := by subst hce; rfl
  generalize hsb : ({ sa with heap := pushCells (sa.heap.push { cls := .type "dict", data := .dict #[] }) scope.names } : Shared) = sb at Ic ⊢
  have turnb : tn 0 sb.heap := T.keep _ _ _ turn0 fun b _ o e => by rw [← hsb]; exact pushCells_keeps _ _ _ _ (Heap.get?_push_of_some _ (upa b o e))
  have okB : ∀ {σ' : L2.St} {H' : Hp} {s' : Shared}, Inv (X.blk sa G scope ce fp) [] σ' H' s' → (∀ b ∈ fp, H' b = none) → ∀ b ∈ fp, FpOk (X.blk sa G scope ce fp) [] H' b := fun {σ' H' s'} I' hn b hb =>
    ⟨hn b hb, (I'.ok.exf b hb).1, I'.ok.exfs b hb, .inl hb, fun y c e => (I'.ok.exf b hb).2 y c e, fun pp hp => absurd (show pp ∈ ([] : List (Addr × Obj)) ++ [] from hp) (by simp)⟩
  have hcG : SqT X.K G cc [.ref q] := hcq.imp (fun z => by
    rw [← hGe]
    rcases z with z | ⟨o, z⟩
    · exact .inl (by rw [upd_ne (ne_of_none z freeD)]; exact z)
    · exact .inr ⟨o, by rw [upd_ne (ne_of_none z freeD)]; exact z⟩) id
  have hpG : Pr4 G (.ref q) r := by
    have mv : ∀ {v : V} {dd : PyData}, Pr2 Ha v dd → Pr2 G v dd := fun ⟨z, m, n, e1, e2, e3⟩ => ⟨z, m, n, e1, by rw [← hGe, upd_ne (ne_of_none e2 freeD)]; exact e2, e3⟩
    obtain ⟨z, vx, vy, dx, dy, e1, e2, e3, e4, e5⟩ := hpq
    exact ⟨z, vx, vy, dx, dy, e1, by rw [← hGe, upd_ne (ne_of_none e2 freeD)]; exact e2, mv e3, mv e4, e5⟩
  have hGD : G D = some (.dK []) := by rw [← hGe, upd_same]
  have key : codeAny (model X.prog X.w) X.A (.compLoop (.DictComp (.Name x p1) (.Constant (.bool true) cj p2) [⟨.Name x p3, iter, [], 0⟩] scope pos) 0 (.ref it) (.ref D) ce) (compPost (model X.prog X.w) X.A X.xe none (fun v s' => EP X pins σ Q v s') (.ref D) sa.heap.objs.size) sb := by
    refine compLoop_anyD (fun n s' => (n = 1 ∧ Inv (X.blk sa G scope ce fp) [] (wipe σ [i]) G s' ∧ tn 0 s'.heap) ∨ (n = 0 ∧ Inv (X.blk sa G scope ce fp) [] (wipe σ [i]) (upd G D (.ext (Phi D q))) s' ∧ tn 1 s'.heap)) ?_ 1 (.inl ⟨rfl, Ic, turnb⟩)
    rintro n sc (⟨rfl, Id, turnc⟩ | ⟨rfl, Id, turnc⟩)
    · refine thnF (T.item (X.blk sa G scope ce fp) rfl rfl rfl hc 0 [] sc _ G (fun _ _ => False) Id (okB Id noneG) turnc ⟨[.ref q], .ref q, hcG, rfl⟩) fun res sd ⟨u, hu, hd⟩ => ?_
      subst hu
      refine thnF hd fun _ se ⟨y, He, Ie, ry, ⟨eHe, yl⟩, turne, nonee⟩ => ?_
      subst eHe
      have ey : y = .ref q := (Option.some.inj (yl _ hcG)).symm
      subst ey
      have Ie' := Ie.pinned (okB Ie nonee) (T.obj _ _ turne)
      have hw : (wipe σ [i])[i]? = some none ∨ (wipe σ [i])[i]? = none := by
        by_cases hl : i < σ.length
        · exact .inl (by rw [wipe_get [i] σ i hl]; simp)
        · exact .inr (List.getElem?_eq_none (by rw [wipe_length]; omega))
      have hlen : i < (wipe σ [i]).length := by
        rw [Ie.len]
        exact hil
      refine thnF (rg1.run _ se _ He (.ref q) u (fun σ' H' => σ' = (wipe σ [i]).set i (some (.ref q)) ∧ H' = He) Ie' ry ⟨rfl, rfl⟩) fun _ sf ⟨σf, Hf, If, e1, e2⟩ => ?_
      subst e1 e2
      refine wpAny_tests_nil ?_
      refine thnF (rk1.run _ sf _ Hf (fun v H' => v = .ref q ∧ H' = Hf) If ⟨.ref q, by rw [List.getElem?_set_self hlen], rfl, rfl⟩) fun z sg ⟨v, Hg, Ig, rv, e1, e2⟩ => ?_
      subst e1 e2
      obtain rfl : z = Value.ref q := rv
      refine thnF ((pe_bl (X := X.blk sa Hg scope ce fp)).run _ sg _ Hg (fun v H' => H' = Hg) Ig rfl) fun z2 sg2 ⟨v2, Hg2, Ig2, rv2, e3⟩ => ?_
      subst e3
      refine one_set (X := X.blk sa Hg2 scope ce fp) (r := r) (by have := hr.un; show X.A.units + 8 < _; omega) Ig2 hGD hpG fun sh Ih => ⟨0, Nat.zero_lt_one, .inr ⟨rfl, ?_, ?_⟩⟩
      · refine (Ih.unpinned (pins := [])).weak (by rw [List.length_set]) fun n v e => ?_
        by_cases hn : n = i
        · subst hn
          rcases hw with hw | hw <;> rw [hw] at e <;> cases e
        · rw [List.getElem?_set_ne (fun z => hn z.symm)]
          exact e
      · exact T.keep _ _ _ turne fun b hb o e => (Ih.pin (b, o) (List.mem_append_right _ (List.mem_append_right _ (mem_pinsAt hb e)))).1
    · have noneE : ∀ b ∈ fp, (upd G D (.ext (Phi D q))) b = none := fun b hb => by rw [upd_ne (offD b hb)]; exact noneG b hb
      have hcE : SqT X.K (upd G D (.ext (Phi D q))) cc [.ref q] := hcG.imp (fun z => by
        rcases z with z | ⟨o, z⟩
        · exact .inl (by rw [upd_ne (ne_of z hGD (fun w => nomatch w))]; exact z)
        · exact .inr ⟨o, by rw [upd_ne (ne_of z hGD (fun w => nomatch w))]; exact z⟩) id
      refine thnF (T.done (X.blk sa G scope ce fp) rfl rfl rfl hc 1 [] sc _ _ (fun _ _ => False) Id (okB Id noneE) turnc ⟨[.ref q], hcE, by simp⟩) fun res sd ⟨hu, Ie⟩ => ?_
      subst hu
      have If : Inv X pins σ (upd G D (.ext (Phi D q))) sd := Ib.call' (ch := fp) Ie.os Ie.base Ie.hok Ie.bare fun b hb => ⟨(apartG b hb).1.2.2.2.1, (apartG b hb).1.2.1, (apartG b hb).1.2.2.2.2.1, (apartG b hb).1.2.2.2.2.2⟩
      have nloc : (upd G D (.ext (Phi D q))) sa.heap.objs.size = none := by
        have z := Ie.free
        rw [← locC]
        exact z
      obtain ⟨mm, hns, _⟩ := Ie.loc
      have hns : sd.heap.Ns ce.locals mm := hns
      rw [locC] at hns
      obtain ⟨f0, f1, f2, f3, f4, f5⟩ := Ib.fpOk (Nat.le_refl _) nloc
      refine ⟨mm, hns, fun hp2 same => ⟨.ref D, upd G D (.ext (Phi D q)), If.turned (t' := sd.toks) (fun b o hb e => (same.2 b hb).trans e) f0 f1 f3 f4 f5, rfl, ?_⟩⟩
      rw [← hGe, upd_upd]
      exact fin D freeD
  exact codeAny_compStart_dict key (T.self X.A 0 _ _ _ turnb key)
def rSrtX : List V → Hp → VK → Prop := fun vs H Q => ∃ D q, vs = [V.ref D] ∧ H D = some (.ext (Phi D q)) ∧ ∀ p, H p = none → Q (.ref p) (upd H p (.lst [.ref q]))
theorem cr_srtX (hcalm : X.calm = true) : CallR X (.builtin "sorted") rSrtX := by
  intro pins s σ H xs us Q I r h
  obtain ⟨D, q, rfl, hD, fin⟩ := h
  obtain rfl := Vals.ref1 r
  obtain ⟨⟨lo, es, ep, raw, keys⟩, _, _⟩ := I.hok D _ hD
  have hz : es.size = 1 := by
    have := congrArg List.length keys
    simpa using this
  refine Calls.call_function_entry PyProof.Rows.kind_sorted PyProof.Rows.plain_sorted PyProof.Rows.entry_sorted (PyProof.Rows.args_sorted1 _) ?_
  unfold Builtin.«sorted»
  refine wpAny_bind (m := checkCount "sorted" 1 1 _) (wpAny_pure ?_)
  refine wpAny_bind (PySem.W.kdu_collect (A := X.A.in1) (KdlSrc.rawDict (es := es) (ep := ep) lo) (I.ok.hd hcalm) raw (by rw [hz, sizeLine_eq]; omega) fun hp tk acc up got => ?_)
  have hacc : acc.toList = [Value.ref q] := by
    have h1 : acc.size = 1 := got.1.trans hz
    have h2 : ∃ v, acc.toList = [v] := List.length_eq_one_iff.mp (by rw [Array.length_toList]; exact h1)
    obtain ⟨v, hv⟩ := h2
    obtain ⟨hi, ev⟩ := got.2 0 v (by rw [← Array.getElem?_toList, hv]; rfl)
    have hk : (es.toList.map (·.key))[0]? = some es[0].key := by
      rw [List.getElem?_map, Array.getElem?_toList, Array.getElem?_eq_getElem hi]
      rfl
    rw [keys] at hk
    rw [hv, ev]
    have : Value.ref q = es[0].key := Option.some.inj hk
    rw [this]
  rw [hacc]
  have I1 : Inv X pins σ H { s with heap := hp, toks := tk } := I.kept up
  have hzl : ([Value.ref q] : List Value).length ≤ sizeLine := by rw [sizeLine_eq, List.length_singleton]; omega
  refine wpAny_bind (wpAny_newList ?_ hzl)
  generalize hL : hp.push (seqObj "list" ([Value.ref q] : List Value).toArray 0) = h2
  have at2 : h2.get? hp.objs.size = some (seqObj "list" ([Value.ref q] : List Value).toArray 0) := by rw [← hL]; exact Heap.get?_push_size _ rfl
  have up2 : ∀ b u, hp.get? b = some u → h2.get? b = some u := fun b u e => by rw [← hL]; exact Heap.get?_push_of_some _ e
  have z2 : h2.objs.size = hp.objs.size + 1 := by rw [← hL]; exact size_push' _ _
  have go : wpAny (model X.prog X.w) X.A.in1 (call (.builtin "list.sort") [.ref hp.objs.size]) (fun _ s' => EP X pins σ Q (.ref hp.objs.size) s') X.xe { s with heap := h2, toks := tk } := by
    refine wpAny_call_entry PyProof.Rows.slot_list_sort ⟨_, at2, rfl⟩ PyProof.Rows.entry_list_sort (SrtO.list_sort_ord (s := { s with heap := h2, toks := tk }) (ltv := fun _ _ => false) (SrtO.Swo.mk (fun _ _ h => (Bool.false_ne_true h).elim) (fun _ _ _ _ _ => rfl)) at2 hzl (fun h2' => absurd (show 2 ≤ 1 from h2') (by omega)) fun out k1 k2 => ⟨_, rfl, ?_⟩) (PyProof.Rows.args_list_sort _)
    have eo : out = [Value.ref q] := List.perm_singleton.mp k2.perm
    subst eo
    obtain ⟨e', he'⟩ := PyProof.Rows.sortedHeap_at (vs := [Value.ref q]) (out := ([Value.ref q] : List Value).toArray) at2
    refine ⟨.ref hp.objs.size, upd H hp.objs.size (.lst [.ref q]), I1.laid (t' := tk) (fun b u e => ?_) (Nat.le_refl _) (show ObjOk X.prog X.w _ _ _ (.lst [.ref q]) from ⟨by rw [sizeLine_eq, List.length_singleton]; omega, _, e', .cons rfl .nil, he'⟩), rfl, fin _ (I1.hok.fresh (Nat.le_refl _))⟩
    have hb : b < hp.objs.size := Heap.lt_size e
    rw [PyProof.Rows.sortedHeap_old (Nat.ne_of_lt hb) (by rw [z2]; exact Nat.lt_succ_of_lt hb)]
    exact up2 b u e
  show wpAny _ _ _ _ _ { s with heap := h2, toks := tk }
  exact wpAny_bind (wpAny_holding (wpAny_mono go (fun _ s' x => wpAny_pure ⟨_, rfl, x⟩) fun _ _ e => e))
theorem k_srtK (K : PySem.W.Frag) (hK : X.K = K) (hr : Room k X.A) (hc : X.calm = true) (hN : X.N.Nodup) {x : Str} {i : Nat} {scope : Scope} {p1 p2 p3 : Pos} {cj : Nat} (hm : X.mg "sorted" = none) (he : SE CA X iter te fe) (ok : BlkOk X.N X.env.scope scope [(x, i)])
    (rg : Blk X scope fun X' => SH CA X' (.Name x p3) (gName i) (hName i) [i]) (rk : Blk X scope fun X' => SE CA X' (.Name x p1) (tVar i) (xVar i)) (hil : i < X.N.length) (hs : ∀ v, foldedSetIterable iter X.env v = pure v := by intro _; rfl) (hg : Gl X "sorted" := by rfl)
    (hs0 : starEach [.DictComp (.Name x p1) (.Constant (.bool true) cj p2) [⟨.Name x p3, iter, [], 0⟩] scope pos'] X.env = (false, eval (.DictComp (.Name x p1) (.Constant (.bool true) cj p2) [⟨.Name x p3, iter, [], 0⟩] scope pos') X.env) :: starEach [] X.env := by rfl) :
    SE CA X (.Call (.Name "sorted" p) [.DictComp (.Name x p1) (.Constant (.bool true) cj p2) [⟨.Name x p3, iter, [], 0⟩] scope pos'] [] pos) (tCB rSrtX (tCons (tDc1 K te) tNil)) (xSrtK fe) := by
  subst hK
  refine ⟨pe_callB (cr_srtX hc) hg hm boot_sorted (pa_cons (pe_dc1 hr hc hN he.pe ok (fun s H C cl fp => (rg s H C cl fp).pe) (fun s H C cl fp => (rk s H C cl fp).pe) hs hil) pa_nil hs0) (by decide) (by decide) hs0 (by rfl), ?_⟩
  intro s m u m' h ρ σ H Q r rs q
  obtain ⟨d, m1, e1, h⟩ := bd_inv h
  refine he.so s m d m1 e1 ρ σ H _ r rs fun ρ1 v1 H1 p1 r1 rv1 => ?_
  cases e2 : seqT m1 d with
  | none => simp only [e2] at h; cases h
  | some xs =>
    simp only [e2] at h
    obtain ⟨a, vs, rfl, hs1, rr⟩ := seqT_inv r1 e2 rv1
    match xs, h, rr with
    | [], h, _ => cases h
    | _ :: _ :: _, h, _ => cases h
    | [x1], h, .cons (b := v) rx .nil =>
      dsimp only at h
      cases e3 : pr4 m1 x1 with
      | none => simp only [e3] at h; cases h
      | some dd =>
        simp only [e3] at h
        have p4 := pr4_ok r1 e3 rx
        obtain ⟨qa, _, _, _, _, rfl, _⟩ := id p4
        refine ⟨a, rfl, ⟨_, hs1⟩, a, qa, dd, rfl, hs1, p4, fun D hD => ⟨D, qa, rfl, upd_same, fun pp hp => ?_⟩⟩
        have r2 : R (wd CA X) ρ1 m1 (upd H1 D (.ext (Phi D qa))) := r1.same fun b z e => by rw [upd_ne (ne_of_none e hD)]; exact e
        obtain ⟨r3, rv3⟩ := alloc_ok (w := .lst [.ref qa]) r2 h hp (new_lst (.cons rx .nil))
        exact q _ _ _ (p1.trans (pre_snoc ρ1 pp)) r3 rv3
end
end Sh
end

noncomputable section
namespace Sh
open PySem PySem.Spec PyProof.Rows L2
/-! ### the reading of one draw -/
def gPow := gI cPow fun i j => .int (i ^ j.toNat)
theorem o_pow {CA : Cd} {X : Cx} : SO CA X (binaryOp .Pow) (rI CPow fun i j => .int (i ^ j.toNat)) gPow := ⟨op_pow, so_I (fun _ _ => cPow_ok) fun _ _ _ => rfl⟩
section
variable (K : PySem.W.Frag)
abbrev rIxA : R2 := fun x y H Q => rIxL K x y H Q ∨ (rIxT K x y H Q ∨ rIxDD x y H Q)
abbrev eI (n : Int) : TE := tOp (rIxA K) (tVar 0) (tC (.int n))
abbrev rEqA : R2 := fun x y H Q => rEq x y H Q ∨ rEqD K x y H Q
abbrev rAddA : R2 := fun x y H Q => rI0 (fun i j => .int (i + j)) x y H Q ∨ (rCat x y H Q ∨ (rCatA K x y H Q ∨ rAddS x y H Q))
abbrev rMulA : R2 := fun x y H Q => rI CMul (fun i j => .int (i * j)) x y H Q ∨ (rRep x y H Q ∨ rRepT K x y H Q)
abbrev rMod1 : R2 := rI (fun _ j => 0 < j) fun i j => .int (i % j)
abbrev rDiv1 : R2 := rI CDivW fun i j => .int (i / j)
abbrev rInt1 : List V → Hp → VK → Prop := fun xs H Q => (∃ i, xs = [V.int i] ∧ Q (.int i) H) ∨ ∃ k, xs = [V.bl k] ∧ Q (.int (if k then 1 else 0)) H
def tDrA : TS := tIfS (tAnd (tTest (tOp (rEqA K) (eI K 2) (tC (.int 0)))) (tTest (tOp (rI0 fun i j => .bl (decide (i < j))) (eI K 1) (tCB (rLenA K) (tCons (eI K 0) tNil)))))
  (L2.tSeq (tAsg (tOp (rIxA K) (eI K 0) (eI K 1)) (gName 2)) (L2.tSeq (tAsg (tOp (rAddA K) (eI K 1) (tC (.int 1))) (L2.gSub (tVar 0) (tC (.int 1)) rSetA)) (L2.tSeq (tIfS (tTest (tOp (rI0 fun i j => .bl (decide (j ≤ i))) (tVar 2) (tOp (rI CPow fun i j => .int (i ^ j.toNat)) (tC (.int 10)) (tC (.int 18))))) (tAsg (tVar 2) (L2.gSub (tVar 0) (tC (.int 2)) rSetA)) tNext)
    (tAsg (tOp rMod1 (tCB rInt1 (tCons (tOp (rAddA K) (tOp (rAddA K) (tOp (rMulA K) (eI K 3) (tC (.int 48271))) (tVar 2)) (tC (.int 13))) tNil)) (tC (.int 2147483647))) (L2.gSub (tVar 0) (tC (.int 3)) rSetA)))))
  tNext
def tDrB : TS := L2.tSeq (tIfS (tTest (tOp (rI0 fun i j => .bl (decide (j < i))) (eI K 2) (tC (.int 0)))) (L2.tSeq (tAsg (tOp rMod1 (tCB rInt1 (tCons (eI K 2) tNil)) (tVar 1)) (gName 3)) (L2.tSeq (tAsg (tOp rDiv1 (eI K 2) (tVar 1)) (L2.gSub (tVar 0) (tC (.int 2)) rSetA)) (tRet (tVar 3)))) tNext)
  (L2.tSeq (tAsg (tOp rMod1 (tCB rInt1 (tCons (tOp (rAddA K) (tOp (rMulA K) (eI K 3) (tC (.int 69621))) (tC (.int 7))) tNil)) (tC (.int 2147483629))) (L2.gSub (tVar 0) (tC (.int 3)) rSetA)) (tRet (tOp rMod1 (tCB rInt1 (tCons (tOp rDiv1 (eI K 3) (tC (.int 11))) tNil)) (tVar 1))))
variable {K}
variable {σ : L2.St} {H : Hp} {a b : Addr} {xs : List V} {Q : VK} {D : Ends} {i t c l : Int} {zs : List Int}
theorem r_el {n : Int} {v : V} (hs : σ[0]? = some (some (.ref a))) (hH : H a = some (.lst xs)) (hx : atI xs n = some v) (q : Q v H) : eI K n σ H Q := ⟨_, hs, .inl ⟨a, xs, n, v, rfl, rfl, .inl (.inl hH), hx, q⟩⟩
theorem r_set {n : Int} {j : Nat} {v : V} {R : L2.St → Hp → Prop} (hs : σ[0]? = some (some (.ref a))) (hH : H a = some (.lst xs)) (hx : ixN xs.length n = some j) (q : R σ (upd H a (.lst (xs.set j v)))) : L2.gSub (tVar 0) (tC (.int n)) rSetA v σ H R := ⟨_, hs, .inl ⟨a, xs, n, j, rfl, rfl, hH, hx, q⟩⟩
theorem div_small {x l : Int} (h0 : 0 < l) (h1 : l < 1000) : CDivW x l := ⟨h0, by
  have : l.natAbs < 2 ^ 10 := by omega
  have h2 : l.natAbs ≠ 0 := by omega
  exact Nat.lt_trans ((Nat.log2_lt h2).mpr this) (by omega)⟩
theorem mul_small {x y : Int} (h0 : 0 ≤ y) (h1 : y < 100000) : CMul x y := .inr ⟨by omega, by omega⟩
theorem draw_B (hs0 : σ[0]? = some (some (.ref a))) (hs1 : σ[1]? = some (some (.int l))) (hl : σ.length = 4) (h0 : 0 < l) (h1 : l < 1000) (hH : H a = some (.lst [.ref b, .int i, .int t, .int c]))
    (q : D.rt (.int (dB l (i, t, c)).1) (upd H a (.lst [.ref b, .int (dB l (i, t, c)).2.1, .int (dB l (i, t, c)).2.2.1, .int (dB l (i, t, c)).2.2.2]))) : tDrB K D σ H := by
  unfold dB at q
  dsimp only at q
  refine r_el hs0 hH rfl ⟨t, 0, rfl, rfl, _, rfl, ?_⟩
  by_cases ht : 0 < t
  · rw [if_pos ht] at q
    rw [decide_eq_true ht, if_pos rfl]
    have e0 : (σ.set 3 (some (V.int (t % l))))[0]? = some (some (.ref a)) := by rw [List.getElem?_set_ne (by decide)]; exact hs0
    have e1 : (σ.set 3 (some (V.int (t % l))))[1]? = some (some (.int l)) := by rw [List.getElem?_set_ne (by decide)]; exact hs1
    refine r_el hs0 hH rfl (.inl ⟨t, rfl, _, hs1, t, l, rfl, rfl, h0, ?_⟩)
    refine r_el e0 hH rfl ⟨_, e1, t, l, rfl, rfl, div_small h0 h1, r_set (j := 2) e0 hH rfl ⟨.int (t % l), ?_, q⟩⟩
    rw [List.getElem?_set_self (by omega)]
  · rw [if_neg ht] at q
    rw [decide_eq_false ht, if_neg Bool.false_ne_true]
    refine r_el hs0 hH rfl (.inl ⟨c, 69621, rfl, rfl, mul_small (by omega) (by omega), .inl ⟨c * 69621, 7, rfl, rfl, .inl ⟨_, rfl, _, 2147483629, rfl, rfl, by omega, r_set (j := 3) hs0 hH rfl ?_⟩⟩⟩)
    refine r_el hs0 upd_same rfl ⟨_, 11, rfl, rfl, div_small (by omega) (by omega), .inl ⟨_, rfl, _, hs1, _, l, rfl, rfl, h0, q⟩⟩
theorem atI_map {zs : List Int} {i : Int} (h0 : 0 ≤ i) (h1 : i < zs.length) : atI (zs.map V.int) i = some (.int (zs.getD i.toNat 0)) := by
  unfold atI ixN
  rw [List.length_map, if_pos h0, if_pos h1]
  show (zs.map V.int)[i.toNat]? = _
  rw [List.getElem?_map, List.getD_eq_getElem?_getD]
  have : i.toNat < zs.length := by omega
  rw [List.getElem?_eq_getElem this]
  rfl
theorem draw_A (hs0 : σ[0]? = some (some (.ref a))) (hl : σ.length = 4) (hH : H a = some (.lst [.ref b, .int i, .int t, .int c])) (hb : H b = some (.lst (zs.map V.int))) (hab : b ≠ a) (hi : 0 ≤ i)
    (q : ∀ (σ' : L2.St) (H' : Hp), σ'[0]? = σ[0]? → σ'[1]? = σ[1]? → σ'.length = 4 → H' a = some (.lst [.ref b, .int (dA zs i t c).1, .int (dA zs i t c).2.1, .int (dA zs i t c).2.2]) → (∀ y, upd H' a y = upd H a y) → D.nx σ' H') : tDrA K D σ H := by
  unfold dA at q
  refine r_el hs0 hH rfl (.inl ⟨rfl, decide (V.int t = V.int 0), rfl, ?_⟩)
  by_cases ht : t = 0
  · rw [show decide (V.int t = V.int 0) = true by rw [ht]; rfl]
    show (if true = true then _ else _)
    rw [if_pos rfl]
    refine r_el hs0 hH rfl (r_el hs0 hH rfl (.inl ⟨.ref b, (zs.map V.int).length, rfl, .inl ⟨_, .inl (.inl hb), rfl⟩, i, _, rfl, rfl, _, rfl, ?_⟩))
    rw [List.length_map]
    by_cases hlt : i < zs.length
    · rw [decide_eq_true hlt]
      show (if true = true then _ else _)
      rw [if_pos rfl]
      rw [if_pos ⟨ht, hlt⟩] at q
      dsimp only at q
      generalize hz : zs.getD i.toNat 0 = z at q
      have eat : atI (zs.map V.int) i = some (.int z) := by rw [atI_map hi hlt, hz]
      generalize hσ : σ.set 2 (some (V.int z)) = σ1
      have s0 : σ1[0]? = some (some (.ref a)) := by rw [← hσ, List.getElem?_set_ne (by decide)]; exact hs0
      have s2 : σ1[2]? = some (some (.int z)) := by rw [← hσ, List.getElem?_set_self (by omega)]
      have s00 : σ1[0]? = σ[0]? := by rw [s0, hs0]
      have s1 : σ1[1]? = σ[1]? := by rw [← hσ, List.getElem?_set_ne (by decide)]
      have sl : σ1.length = 4 := by rw [← hσ, List.length_set]; exact hl
      refine r_el hs0 hH rfl (r_el hs0 hH rfl (.inl ⟨b, _, i, .int z, rfl, rfl, .inl (.inl hb), eat, ?_⟩))
      show L2.tSeq _ _ _ (σ.set 2 (some (V.int z))) H
      rw [hσ]
      refine r_el s0 hH rfl (.inl ⟨i, 1, rfl, rfl, r_set (j := 1) s0 hH rfl ?_⟩)
      refine ⟨_, s2, 10, 18, rfl, rfl, ⟨by omega, by omega, by decide⟩, z, (10 : Int) ^ 18, rfl, rfl, _, rfl, ?_⟩
      by_cases hc : (10 : Int) ^ 18 ≤ z
      · rw [decide_eq_true hc]
        show (if true = true then _ else _)
        rw [if_pos rfl]
        rw [if_pos hc] at q
        refine ⟨_, s2, r_set (j := 2) s0 upd_same rfl ?_⟩
        refine r_el s0 upd_same rfl (.inl ⟨c, 48271, rfl, rfl, mul_small (by omega) (by omega), _, s2, .inl ⟨_, z, rfl, rfl, .inl ⟨_, 13, rfl, rfl, .inl ⟨_, rfl, _, 2147483647, rfl, rfl, by omega, r_set (j := 3) s0 upd_same rfl ?_⟩⟩⟩⟩)
        exact q σ1 _ s00 s1 sl upd_same fun y => by rw [upd_upd, upd_upd, upd_upd]
      · rw [decide_eq_false hc]
        show (if false = true then _ else _)
        rw [if_neg Bool.false_ne_true]
        rw [if_neg hc] at q
        refine r_el s0 upd_same rfl (.inl ⟨c, 48271, rfl, rfl, mul_small (by omega) (by omega), _, s2, .inl ⟨_, z, rfl, rfl, .inl ⟨_, 13, rfl, rfl, .inl ⟨_, rfl, _, 2147483647, rfl, rfl, by omega, r_set (j := 3) s0 upd_same rfl ?_⟩⟩⟩⟩)
        exact q σ1 _ s00 s1 sl upd_same fun y => by rw [upd_upd, upd_upd]
    · rw [decide_eq_false hlt]
      show (if false = true then _ else _)
      rw [if_neg Bool.false_ne_true]
      rw [if_neg (fun z => hlt z.2)] at q
      exact q σ H rfl rfl hl hH fun _ => rfl
  · rw [show decide (V.int t = V.int 0) = false from decide_eq_false (fun z => ht (by injection z))]
    show (if false = true then _ else (if false = true then _ else _))
    rw [if_neg Bool.false_ne_true, if_neg Bool.false_ne_true]
    rw [if_neg (fun z => ht z.1)] at q
    exact q σ H rfl rfl hl hH fun _ => rfl
end
end Sh
end

noncomputable section
namespace Sh
open PySem PySem.Spec PyProof.Rows L2
/-! ### a smaller memory with which the run goes on -/
def belowU (n : Nat) : U → Bool
  | .ref k => Nat.blt k n
  | _ => true
def belowL (n : Nat) : List U → Bool
  | [] => true
  | x :: r => belowU n x && belowL n r
def belowP {κ : Type} (n : Nat) : List (κ × U) → Bool
  | [] => true
  | x :: r => belowU n x.2 && belowP n r
def belowO (n : Nat) : Ob → Bool
  | .lst xs => belowL n xs | .tup xs => belowL n xs | .ktup xs => belowL n xs | .frz xs => belowL n xs
  | .dK xs => belowP n xs | .dT xs => belowP n xs | .ins _ xs => belowP n xs
  | .drw r _ => Nat.blt r n
  | _ => true
theorem take_at {ρ : List Addr} {n k : Nat} {a : Addr} (e : ρ[k]? = some a) (h : k < n) : (ρ.take n)[k]? = some a := by
  rw [List.getElem?_take_of_lt h]
  exact e
theorem RV.cut {ρ : List Addr} {n : Nat} (h1 : 1 < n) : ∀ {u : U} {v : V}, belowU n u = true → RV ρ u v → RV (ρ.take n) u v
  | .non, _, _, e => e
  | .bl _, _, _, e => e
  | .int _, _, _, e => e
  | .str _, _, _, e => e
  | .ref k, _, b, ⟨a, e, e'⟩ => ⟨a, take_at e (blt_lt b), e'⟩
  | .dr _, _, _, e => e
  | .num _, _, _, ⟨a, e, r⟩ => ⟨a, take_at e h1, r⟩
  | .any, _, _, e => e
theorem RVs.cut {ρ : List Addr} {n : Nat} (h1 : 1 < n) : ∀ {us : List U} {vs : List V}, belowL n us = true → RVs ρ us vs → RVs (ρ.take n) us vs
  | _, _, _, .nil => .nil
  | _, _, b, .cons r rr => by
    obtain ⟨b1, b2⟩ := Bool.and_eq_true_iff.mp b
    exact .cons (RV.cut h1 b1 r) (RVs.cut h1 b2 rr)
theorem RKV.cut {κ : Type} {ρ : List Addr} {n : Nat} (h1 : 1 < n) : ∀ {us : List (κ × U)} {vs : List (κ × V)}, belowP n us = true → RKV ρ us vs → RKV (ρ.take n) us vs
  | _, _, _, .nil => .nil
  | _, _, b, .cons r rr => by
    obtain ⟨b1, b2⟩ := Bool.and_eq_true_iff.mp b
    exact .cons ⟨r.1, RV.cut h1 b1 r.2⟩ (RKV.cut h1 b2 rr)
theorem RO.cut {W : Wd} {ρ : List Addr} {H : Hp} {a : Addr} {n : Nat} (h1 : 1 < n) : ∀ {o : Ob}, belowO n o = true → RO W ρ H a o → RO W (ρ.take n) H a o
  | .lst _, b, ⟨vs, e, r⟩ => ⟨vs, e, RVs.cut h1 b r⟩
  | .tup _, b, ⟨vs, e, r⟩ => ⟨vs, e, RVs.cut h1 b r⟩
  | .ktup _, b, ⟨vs, e, r⟩ => ⟨vs, e, RVs.cut h1 b r⟩
  | .dK _, b, ⟨vs, e, r⟩ => ⟨vs, e, RKV.cut h1 b r⟩
  | .dT _, b, ⟨vs, e, r⟩ => ⟨vs, e, RKV.cut h1 b r⟩
  | .ins _ _, b, ⟨dx, vs, e, r⟩ => ⟨dx, vs, e, RKV.cut h1 b r⟩
  | .frz _, b, ⟨o, vs, e, r⟩ => ⟨o, vs, e, RVs.cut h1 b r⟩
  | .src _, _, ⟨d, e, r⟩ => ⟨d, take_at e h1, r⟩
  | .scr, _, e => e
  | .drw _ _, b, ⟨x, d, i, t, c, e, e2, r⟩ => ⟨x, d, i, t, c, take_at e (blt_lt b), take_at e2 h1, r⟩
/-! two things that are seen to be the same -/
def uEq : U → U → Bool
  | .non, .non => true
  | .bl a, .bl b => a == b
  | .int a, .int b => decide (a = b)
  | .str a, .str b => sEq a b
  | .ref a, .ref b => Nat.beq a b
  | .dr a, .dr b => a == b
  | .num a, .num b => decide (a = b)
  | .any, .any => true
  | _, _ => false
theorem uEq_ok : ∀ {x y : U}, uEq x y = true → x = y
  | .non, .non, _ => rfl
  | .bl a, .bl b, h => by rw [beq_iff_eq.mp h]
  | .int a, .int b, h => by rw [of_decide_eq_true h]
  | .str a, .str b, h => by rw [(sEq_iff a b).mp h]
  | .ref a, .ref b, h => by rw [Nat.eq_of_beq_eq_true h]
  | .dr a, .dr b, h => by rw [beq_iff_eq.mp h]
  | .num a, .num b, h => by rw [of_decide_eq_true h]
  | .any, .any, _ => rfl
def lstEq {α : Type} (f : α → α → Bool) : List α → List α → Bool
  | [], [] => true
  | x :: r, y :: q => f x y && lstEq f r q
  | _, _ => false
theorem lstEq_ok {α : Type} {f : α → α → Bool} (hf : ∀ x y, f x y = true → x = y) : ∀ {xs ys : List α}, lstEq f xs ys = true → xs = ys
  | [], [], _ => rfl
  | x :: r, y :: q, h => by
    obtain ⟨h1, h2⟩ := Bool.and_eq_true_iff.mp h
    rw [hf x y h1, lstEq_ok hf h2]
def kuEq {κ : Type} (f : κ → κ → Bool) (p q : κ × U) : Bool := f p.1 q.1 && uEq p.2 q.2
theorem kuEq_ok {κ : Type} {f : κ → κ → Bool} (hf : ∀ x y, f x y = true → x = y) (p q : κ × U) (h : kuEq f p q = true) : p = q := by
  obtain ⟨h1, h2⟩ := Bool.and_eq_true_iff.mp h
  exact Prod.ext (hf _ _ h1) (uEq_ok h2)
def oEq : Ob → Ob → Bool
  | .lst a, .lst b => lstEq uEq a b
  | .tup a, .tup b => lstEq uEq a b
  | .ktup a, .ktup b => lstEq uEq a b
  | .dK a, .dK b => lstEq (kuEq kEq) a b
  | .dT a, .dT b => lstEq (kuEq ksEq) a b
  | .ins c a, .ins d b => Nat.beq c d && lstEq (kuEq sEq) a b
  | .scr, .scr => true
  | _, _ => false
theorem oEq_ok : ∀ {x y : Ob}, oEq x y = true → x = y
  | .lst a, .lst b, h => by rw [lstEq_ok (fun _ _ => uEq_ok) h]
  | .tup a, .tup b, h => by rw [lstEq_ok (fun _ _ => uEq_ok) h]
  | .ktup a, .ktup b, h => by rw [lstEq_ok (fun _ _ => uEq_ok) h]
  | .dK a, .dK b, h => by rw [lstEq_ok (kuEq_ok fun x y => (KE.spec x y).mp) h]
  | .dT a, .dT b, h => by rw [lstEq_ok (kuEq_ok fun x y => (KE.spec x y).mp) h]
  | .ins c a, .ins d b, h => by
    obtain ⟨h1, h2⟩ := Bool.and_eq_true_iff.mp h
    rw [Nat.eq_of_beq_eq_true h1, lstEq_ok (kuEq_ok fun x y => (sEq_iff x y).mp) h2]
  | .scr, .scr, _ => rfl
/-- every thing of m' below n, but the one at 3, stands in m as it stands in m', and names none from n on -/
def sameAt (n : Nat) (m' m : Mem) (i : Nat) : Bool := match Nat.beq i 3 with
  | true => true
  | false => match m'.get i with
    | none => true
    | some o => match m.get i with
      | some o2 => oEq o o2 && belowO n o
      | none => false
def sameM (n : Nat) (m' m : Mem) : Nat → Bool
  | 0 => true
  | k + 1 => match sameAt n m' m k with
    | true => sameM n m' m k
    | false => false
theorem sameM_at {n : Nat} {m' m : Mem} : ∀ {k : Nat}, sameM n m' m k = true → ∀ i, i < k → sameAt n m' m i = true
  | 0, _, i, h => absurd h (Nat.not_lt_zero i)
  | k + 1, h, i, hi => by
    unfold sameM at h
    cases e : sameAt n m' m k with
    | false => rw [e] at h; cases h
    | true =>
      rw [e] at h
      by_cases hk : i = k
      · rw [hk]; exact e
      · exact sameM_at (show sameM n m' m k = true from h) i (by omega)
def cutS (n : Nat) : S → S → Bool
  | [], [] => true
  | none :: r, _ :: q => cutS n r q
  | some x :: r, some y :: q => uEq x y && (belowU n x && cutS n r q)
  | _, _ => false
theorem cutS_ok {ρ : List Addr} {n : Nat} (h1 : 1 < n) : ∀ {s' s : S} {σ : L2.St}, cutS n s' s = true → Rs ρ s σ → Rs (ρ.take n) s' σ
  | [], [], _, _, .nil => .nil
  | none :: r, _ :: q, _, h, .cons _ rr => .cons trivial (cutS_ok h1 (show cutS n r q = true from h) rr)
  | some x :: r, some y :: q, w :: _, h, .cons rx rr => by
    obtain ⟨a, h⟩ := Bool.and_eq_true_iff.mp (show (uEq x y && (belowU n x && cutS n r q)) = true from h)
    obtain ⟨b, c⟩ := Bool.and_eq_true_iff.mp h
    have e := uEq_ok a
    subst e
    cases w with
    | none => exact rx.elim
    | some v => exact .cons (RV.cut (u := x) (v := v) h1 b rx) (cutS_ok h1 c rr)
theorem cut_ok {W : Wd} {ρ : List Addr} {m m' : Mem} {H : Hp} {s s' : S} {σ : L2.St} {r0 : Nat} {ls : List (Int × U)} (r : R W ρ m H) (rs : Rs ρ s σ) (hn : Nat.ble m'.n m.n = true) (h4 : Nat.ble 4 m'.n = true) (h3 : m'.get 3 = some (.drw r0 ls)) (h3' : m.get 3 = some (.drw r0 ls)) (hr : Nat.blt r0 m'.n = true)
    (hM : sameM m'.n m' m m'.n = true) (hS : cutS m'.n s' s = true) : ∃ ρ', R W ρ' m' H ∧ Rs ρ' s' σ := by
  have hn := Nat.le_of_ble_eq_true hn
  have h1 : 1 < m'.n := by have := Nat.le_of_ble_eq_true h4; omega
  have key : ∀ i o, i < m'.n → m'.get i = some o → m.get i = some o ∧ belowO m'.n o = true := fun i o hi e => by
    by_cases h : i = 3
    · subst h
      rw [h3] at e
      cases e
      exact ⟨h3', hr⟩
    · have q := sameM_at hM i hi
      unfold sameAt at q
      have hb : Nat.beq i 3 = false := by
        cases hb : Nat.beq i 3 with
        | true => exact absurd (Nat.eq_of_beq_eq_true hb) h
        | false => rfl
      rw [hb, e] at q
      dsimp only at q
      cases e2 : m.get i with
      | none => rw [e2] at q; cases q
      | some o2 =>
        rw [e2] at q
        obtain ⟨a, b⟩ := Bool.and_eq_true_iff.mp q
        rw [oEq_ok a] at b ⊢
        exact ⟨rfl, b⟩
  have back : ∀ {i : Nat} {a : Addr}, (ρ.take m'.n)[i]? = some a → i < m'.n ∧ ρ[i]? = some a := fun {i a} e => by
    have hi : i < m'.n := by
      have := (List.getElem?_eq_some_iff.mp e).1
      rw [List.length_take] at this
      omega
    rw [List.getElem?_take_of_lt hi] at e
    exact ⟨hi, e⟩
  refine ⟨ρ.take m'.n, ⟨by rw [List.length_take, r.len]; omega, fun i j a x y hi hj gi gj mi mj => ?_, fun i a x hi gi => ?_, by have := r.low; omega⟩, cutS_ok h1 hS rs⟩
  · obtain ⟨i1, i2⟩ := back hi
    obtain ⟨j1, j2⟩ := back hj
    exact r.inj i j a x y i2 j2 (key i x i1 gi).1 (key j y j1 gj).1 mi mj
  · obtain ⟨i1, i2⟩ := back hi
    obtain ⟨k1, k2⟩ := key i x i1 gi
    exact RO.cut h1 k2 (r.obj i a x i2 k1)
/-! ### statements one behind another -/
def stT : List XS → S → Mem → Option (Fl × Mem)
  | [], s, m => some (.nx s, m)
  | f :: r, s, m => match f s m with
    | some (.nx s', m') => stT r s' m'
    | some (.rt u, m') => some (.rt u, m')
    | _ => none
def seqs (ts : List TS) (u : TS) : TS := ts.foldr L2.tSeq u
theorem so_stT {W : Wd} : ∀ {ts : List TS} {fs : List XS}, Paired (fun t f => SoS W t f) ts fs → ∀ {u : TS} {s : S} {m : Mem} {fl : Fl} {m' : Mem}, stT fs s m = some (fl, m') → ∀ {ρ : List Addr} {σ : L2.St} {H : Hp} {D : Ends}, R W ρ m H → Rs ρ s σ →
    (∀ s', fl = .nx s' → ∀ ρ' σ' H', R W ρ' m' H' → Rs ρ' s' σ' → u D σ' H') → (∀ x, fl = .rt x → ∀ ρ' v H', R W ρ' m' H' → RV ρ' x v → D.rt v H') → seqs ts u D σ H
  | [], [], .nil, u, s, m, fl, m', h, ρ, σ, H, D, r, rs, q1, _ => by cases h; exact q1 s rfl ρ σ H r rs
  | t :: ts, f :: fs, .cons h1 hr, u, s, m, fl, m', h, ρ, σ, H, D, r, rs, q1, q2 => by
    show t { D with nx := seqs ts u D } σ H
    unfold stT at h
    cases e : f s m with
    | none => simp only [e] at h; cases h
    | some z =>
      obtain ⟨f1, m1⟩ := z
      cases f1 with
      | nx s1 =>
        simp only [e] at h
        exact h1 s m _ m1 e ρ σ H _ r rs fun ρ' σ' H' _ r' rs' => so_stT hr h r' rs' q1 q2
      | rt x =>
        simp only [e] at h
        cases h
        exact h1 s m _ _ e ρ σ H _ r rs fun ρ' v H' _ r' rv' => q2 x rfl ρ' v H' r' rv'
      | bk s1 => simp only [e] at h; cases h
      | ct s1 => simp only [e] at h; cases h
theorem seqs_app {ts ts' : List TS} {u : TS} : seqs (ts ++ ts') u = seqs ts (seqs ts' u) := by
  unfold seqs
  rw [List.foldr_append]
/-! ### the draws that are to come -/
theorem dB_val {l : Int} {p : Int × Int × Int} (h : 0 < l) : 0 ≤ (dB l p).1 ∧ (dB l p).1 < l := by
  unfold dB
  split
  · exact ⟨Int.emod_nonneg _ (by omega), Int.emod_lt_of_pos _ h⟩
  · exact ⟨Int.emod_nonneg _ (by omega), Int.emod_lt_of_pos _ h⟩
theorem dB_ix {l : Int} {p : Int × Int × Int} : (dB l p).2.1 = p.1 := by
  unfold dB
  split <;> rfl
theorem dA_ix {zs : List Int} {i t c : Int} (h : 0 ≤ i) : 0 ≤ (dA zs i t c).1 := by
  unfold dA
  split
  · show 0 ≤ i + 1; omega
  · exact h
theorem fut_ex (zs : List Int) (d : Nat) : ∀ (n : Nat) (i t c : Int), 0 ≤ i → ∃ bs : List Bool, bs.length = n ∧ Fut zs d i t c (bs.map fun b => ((7 : Int), U.dr b))
  | 0, i, t, c, _ => ⟨[], rfl, trivial⟩
  | n + 1, i, t, c, h => by
    obtain ⟨v0, v1⟩ := dB_val (l := 7) (p := dA zs i t c) (by omega)
    obtain ⟨bs, e, hf⟩ := fut_ex zs d n (dB 7 (dA zs i t c)).2.1 (dB 7 (dA zs i t c)).2.2.1 (dB 7 (dA zs i t c)).2.2.2 (by rw [dB_ix]; exact dA_ix h)
    refine ⟨decide ((dB 7 (dA zs i t c)).1 % 2 = 1) :: bs, by rw [List.length_cons, e], h, by omega, by omega, ⟨v0, ?_⟩, hf⟩
    by_cases hp : (dB 7 (dA zs i t c)).1 % 2 = 1
    · rw [decide_eq_true hp, if_pos rfl]; exact hp
    · rw [decide_eq_false hp, if_neg Bool.false_ne_true]; omega
theorem fut_first (zs : List Int) (n : Nat) : ∃ (d : Nat) (bs : List Bool), bs.length = n ∧ Fut zs d 0 0 1 ((9, U.num 0) :: bs.map fun b => ((7 : Int), U.dr b)) := by
  obtain ⟨v0, v1⟩ := dB_val (l := 9) (p := dA zs 0 0 1) (by omega)
  obtain ⟨bs, e, hf⟩ := fut_ex zs (dB 9 (dA zs 0 0 1)).1.toNat n (dB 9 (dA zs 0 0 1)).2.1 (dB 9 (dA zs 0 0 1)).2.2.1 (dB 9 (dA zs 0 0 1)).2.2.2 (by rw [dB_ix]; exact dA_ix (by omega))
  exact ⟨_, bs, e, by omega, by omega, by omega, ⟨by omega, by omega⟩, hf⟩
end Sh
end

noncomputable section
namespace K47
open PySem PySem.Spec PyProof.Rows L2 Sh
def top (i : Nat) : Stmt := PySem.Challenge.pw_wentback_k47_whole_logs_of_locks_and_joi.main.body.getD i (.Pass ⟨0, 0, 0, 0⟩)
def cbody : Stmt → List Stmt
  | .ClassDef (body := b) .. => b
  | _ => []
def ctop (i j : Nat) : Stmt := (cbody (top i)).getD j (.Pass ⟨0, 0, 0, 0⟩)
def kv_ALONE : List V := [.str ⟨#[97, 100, 100]⟩, .str ⟨#[115, 117, 98]⟩, .str ⟨#[109, 117, 108]⟩, .str ⟨#[100, 105, 118]⟩, .str ⟨#[114, 101, 109]⟩, .str ⟨#[97, 110, 100]⟩, .str ⟨#[111, 114]⟩, .str ⟨#[120, 111, 114]⟩, .str ⟨#[100, 117, 112]⟩, .str ⟨#[100, 114, 111, 112]⟩, .str ⟨#[110, 101, 103]⟩, .str ⟨#[103, 105, 118, 101]⟩, .str ⟨#[102, 101, 116, 99, 104]⟩, .str ⟨#[115, 101, 116]⟩, .str ⟨#[97, 115, 107]⟩, .str ⟨#[116, 101, 108, 108]⟩, .str ⟨#[106, 111, 105, 110]⟩]
def kv_CONDITIONS : List V := [.str ⟨#[108, 116]⟩, .str ⟨#[108, 101]⟩, .str ⟨#[101, 113]⟩, .str ⟨#[110, 101]⟩, .str ⟨#[103, 116]⟩, .str ⟨#[103, 101]⟩]
def kv_WORKS : List V := [.str ⟨#[97, 100, 100]⟩, .str ⟨#[115, 117, 98]⟩, .str ⟨#[109, 117, 108]⟩, .str ⟨#[100, 105, 118]⟩, .str ⟨#[114, 101, 109]⟩, .str ⟨#[97, 110, 100]⟩, .str ⟨#[111, 114]⟩, .str ⟨#[120, 111, 114]⟩]
abbrev s_is_whole : Stmt := top 11
abbrev s_is_word : Stmt := top 12
abbrev s_is_name : Stmt := top 27
abbrev s_look_at_proc : Stmt := top 29
abbrev s_is_place : Stmt := top 31
abbrev s_is_instruction : Stmt := top 30
abbrev s_Program_init : Stmt := ctop 26 0
abbrev s_law_made : Stmt := top 86
abbrev s_law_same : Stmt := top 85
abbrev s_is_weaving : Stmt := top 48
abbrev s_look_at_weaving : Stmt := top 49
abbrev s_look_at_program : Stmt := top 28
abbrev s_Machine_begin : Stmt := ctop 44 2
abbrev s_Machine_init : Stmt := ctop 44 0
abbrev s_Machine_next_one : Stmt := ctop 44 3
abbrev s_Machine_is_other : Stmt := ctop 44 5
abbrev s_Machine_waits : Stmt := ctop 44 4
abbrev s_Machine_may_go : Stmt := ctop 44 6
abbrev s_touches_of : Stmt := top 56
abbrev s_needs : Stmt := top 32
abbrev s_Machine_pass_on : Stmt := ctop 44 11
abbrev s_Machine_cell : Stmt := ctop 44 12
abbrev s_Machine_shared : Stmt := ctop 44 13
abbrev s_wrap : Stmt := top 13
abbrev s_divided : Stmt := top 15
abbrev s_worked : Stmt := top 14
abbrev s_Machine_plain : Stmt := ctop 44 9
abbrev s_Machine_done : Stmt := ctop 44 8
abbrev s_Machine_step : Stmt := ctop 44 7
abbrev s_event_of : Stmt := top 57
abbrev s_events : Stmt := top 58
abbrev s_Follows_init : Stmt := ctop 68 0
abbrev s_Touched_init : Stmt := ctop 66 0
abbrev s_joined_by : Stmt := top 61
abbrev s_spawned_by : Stmt := top 60
abbrev s_spawn_for : Stmt := top 64
abbrev s_line_before : Stmt := top 63
abbrev s_own_before : Stmt := top 65
abbrev s_Follows_closed : Stmt := ctop 68 2
abbrev s_Follows_begin : Stmt := ctop 68 1
abbrev s_name_of : Stmt := top 69
abbrev s_Touched_met : Stmt := ctop 66 1
abbrev s_Follows_joined : Stmt := ctop 68 3
abbrev s_is_fault : Stmt := top 62
abbrev s_Follows_take : Stmt := ctop 68 4
abbrev s_Touched_take : Stmt := ctop 66 2
abbrev s_counts_of : Stmt := top 71
abbrev s_least_log : Stmt := top 70
abbrev s_names_in : Stmt := top 75
abbrev s_turned : Stmt := top 80
abbrev s_is_event_name : Stmt := top 72
abbrev s_is_log : Stmt := top 73
abbrev s_look_at_log : Stmt := top 74
abbrev s_fits : Stmt := top 51
abbrev s_turned_right : Stmt := top 81
abbrev s_picture : Stmt := top 45
abbrev s_run : Stmt := top 50
abbrev s_may_do : Stmt := top 77
abbrev s_faults_at_last : Stmt := top 79
abbrev s_last_of : Stmt := top 78
abbrev s_woven : Stmt := top 76
abbrev s_default_thread : Stmt := top 52
abbrev s_by_default : Stmt := top 53
abbrev s_law_draws : Stmt := top 83
abbrev s_law_draw : Stmt := top 84
abbrev s_law : Stmt := top 87
/-! ### what the module holds beside the defs -/
def ktB (K : PySem.W.Frag) (a : Addr) (vs : List V) : Bool := match K.lookup a with
  | some o => match o.cls with
    | .type c => match o.data with
      | .seq its _ => decide (c = "tuple") && (decide (its.size ≤ sizeLine) && He.relAll vs its.toList)
      | _ => false
    | _ => false
  | none => false
theorem ktB_ok {K : PySem.W.Frag} {a : Addr} {vs : List V} (h : ktB K a vs = true) : KTup K a vs := by
  unfold ktB at h
  cases q : K.lookup a with
  | none => simp only [q] at h; cases h
  | some o =>
    obtain ⟨oc, od, dt, osl⟩ := o
    simp only [q] at h
    cases oc with
    | type c =>
      cases dt with
      | seq its n =>
        simp only at h
        obtain ⟨h1, h2⟩ := Bool.and_eq_true_iff.mp h
        obtain ⟨h3, h4⟩ := Bool.and_eq_true_iff.mp h2
        exact ⟨_, its, n, q, congrArg Value.type (of_decide_eq_true h1), rfl, of_decide_eq_true h3, He.relAll_ok h4⟩
      | _ => cases h
    | _ => cases h
def elA (K : PySem.W.Frag) (a : Addr) (i : Nat) : Addr := match K.lookup a with
  | some o => match o.data with
    | .seq its _ => match its.toList[i]? with
      | some (.ref b) => b
      | _ => 0
    | _ => 0
  | none => 0
def icB (K : PySem.W.Frag) (C : Addr) : Bool := decide (PySem.W.findIn K (.ref C) "__class__" = some (some (.builtin "object.__class__"))) && (decide (PySem.W.specialIn K (.builtin "object.__class__") "__get__" = some (some (.builtin "getset_descriptor.__get__"))) &&
  (decide (PySem.W.takesIn K (.builtin "object.__class__") = some true) && (decide (PySem.W.mroIn K C (.type "object") = some true) && decide (PySem.W.kitOne K (.ref C) (.ref C) = some true))))
theorem icB_ok {K : PySem.W.Frag} {C : Addr} (c : Cls K C) (h : icB K C = true) : C8.InsC K C := by
  obtain ⟨h1, h⟩ := Bool.and_eq_true_iff.mp h
  obtain ⟨h2, h⟩ := Bool.and_eq_true_iff.mp h
  obtain ⟨h3, h⟩ := Bool.and_eq_true_iff.mp h
  obtain ⟨h4, h5⟩ := Bool.and_eq_true_iff.mp h
  exact ⟨c, of_decide_eq_true h1, of_decide_eq_true h2, of_decide_eq_true h3, of_decide_eq_true h4, of_decide_eq_true h5⟩
def ca (K : PySem.W.Frag) : Nat → Addr
  | 0 => He.ga K "Program" | 1 => He.ga K "Machine" | 2 => He.ga K "Touched" | _ => He.ga K "Follows"
def d_law_draws : He.DefD := ⟨("_law_draws", none), "_law_draws", "_law_draws", defArgs s_law_draws, defBody s_law_draws, defScope s_law_draws, [], []⟩
def d_law_draw : He.DefD := ⟨("_law_draw", none), "_law_draw", "_law_draw", defArgs s_law_draw, defBody s_law_draw, defScope s_law_draw, [], []⟩
def d_is_whole : He.DefD := ⟨("is_whole", none), "is_whole", "is_whole", defArgs s_is_whole, defBody s_is_whole, defScope s_is_whole, [], []⟩
def d_is_word : He.DefD := ⟨("is_word", none), "is_word", "is_word", defArgs s_is_word, defBody s_is_word, defScope s_is_word, [], []⟩
def d_is_name : He.DefD := ⟨("is_name", none), "is_name", "is_name", defArgs s_is_name, defBody s_is_name, defScope s_is_name, [], []⟩
def d_look_at_proc : He.DefD := ⟨("look_at_proc", none), "look_at_proc", "look_at_proc", defArgs s_look_at_proc, defBody s_look_at_proc, defScope s_look_at_proc, [], []⟩
def d_is_place : He.DefD := ⟨("is_place", none), "is_place", "is_place", defArgs s_is_place, defBody s_is_place, defScope s_is_place, [], []⟩
def d_is_instruction : He.DefD := ⟨("is_instruction", none), "is_instruction", "is_instruction", defArgs s_is_instruction, defBody s_is_instruction, defScope s_is_instruction, [], []⟩
def d_Program_init : He.DefD := ⟨("Program", some "__init__"), "__init__", "Program.__init__", defArgs s_Program_init, defBody s_Program_init, defScope s_Program_init, [], []⟩
def d_law_made : He.DefD := ⟨("_law_made", none), "_law_made", "_law_made", defArgs s_law_made, defBody s_law_made, defScope s_law_made, [], []⟩
def d_law_same : He.DefD := ⟨("_law_same", none), "_law_same", "_law_same", defArgs s_law_same, defBody s_law_same, defScope s_law_same, [], []⟩
def d_is_weaving : He.DefD := ⟨("is_weaving", none), "is_weaving", "is_weaving", defArgs s_is_weaving, defBody s_is_weaving, defScope s_is_weaving, [], []⟩
def d_look_at_weaving : He.DefD := ⟨("look_at_weaving", none), "look_at_weaving", "look_at_weaving", defArgs s_look_at_weaving, defBody s_look_at_weaving, defScope s_look_at_weaving, [], []⟩
def d_look_at_program : He.DefD := ⟨("look_at_program", none), "look_at_program", "look_at_program", defArgs s_look_at_program, defBody s_look_at_program, defScope s_look_at_program, [], []⟩
def d_Machine_begin : He.DefD := ⟨("Machine", some "begin"), "begin", "Machine.begin", defArgs s_Machine_begin, defBody s_Machine_begin, defScope s_Machine_begin, [], []⟩
def d_Machine_init : He.DefD := ⟨("Machine", some "__init__"), "__init__", "Machine.__init__", defArgs s_Machine_init, defBody s_Machine_init, defScope s_Machine_init, [], []⟩
def d_Machine_next_one : He.DefD := ⟨("Machine", some "next_one"), "next_one", "Machine.next_one", defArgs s_Machine_next_one, defBody s_Machine_next_one, defScope s_Machine_next_one, [], []⟩
def d_Machine_is_other : He.DefD := ⟨("Machine", some "is_other"), "is_other", "Machine.is_other", defArgs s_Machine_is_other, defBody s_Machine_is_other, defScope s_Machine_is_other, [], []⟩
def d_Machine_waits : He.DefD := ⟨("Machine", some "waits"), "waits", "Machine.waits", defArgs s_Machine_waits, defBody s_Machine_waits, defScope s_Machine_waits, [], []⟩
def d_Machine_may_go : He.DefD := ⟨("Machine", some "may_go"), "may_go", "Machine.may_go", defArgs s_Machine_may_go, defBody s_Machine_may_go, defScope s_Machine_may_go, [], []⟩
def d_touches_of : He.DefD := ⟨("touches_of", none), "touches_of", "touches_of", defArgs s_touches_of, defBody s_touches_of, defScope s_touches_of, [], []⟩
def d_needs : He.DefD := ⟨("needs", none), "needs", "needs", defArgs s_needs, defBody s_needs, defScope s_needs, [], []⟩
def d_Machine_pass_on : He.DefD := ⟨("Machine", some "pass_on"), "pass_on", "Machine.pass_on", defArgs s_Machine_pass_on, defBody s_Machine_pass_on, defScope s_Machine_pass_on, [], []⟩
def d_Machine_cell : He.DefD := ⟨("Machine", some "cell"), "cell", "Machine.cell", defArgs s_Machine_cell, defBody s_Machine_cell, defScope s_Machine_cell, [], []⟩
def d_Machine_shared : He.DefD := ⟨("Machine", some "shared"), "shared", "Machine.shared", defArgs s_Machine_shared, defBody s_Machine_shared, defScope s_Machine_shared, [], []⟩
def d_wrap : He.DefD := ⟨("wrap", none), "wrap", "wrap", defArgs s_wrap, defBody s_wrap, defScope s_wrap, [], []⟩
def d_divided : He.DefD := ⟨("divided", none), "divided", "divided", defArgs s_divided, defBody s_divided, defScope s_divided, [], []⟩
def d_worked : He.DefD := ⟨("worked", none), "worked", "worked", defArgs s_worked, defBody s_worked, defScope s_worked, [], []⟩
def d_Machine_plain : He.DefD := ⟨("Machine", some "plain"), "plain", "Machine.plain", defArgs s_Machine_plain, defBody s_Machine_plain, defScope s_Machine_plain, [], []⟩
def d_Machine_done : He.DefD := ⟨("Machine", some "done"), "done", "Machine.done", defArgs s_Machine_done, defBody s_Machine_done, defScope s_Machine_done, [], []⟩
def d_Machine_step : He.DefD := ⟨("Machine", some "step"), "step", "Machine.step", defArgs s_Machine_step, defBody s_Machine_step, defScope s_Machine_step, [], []⟩
def d_event_of : He.DefD := ⟨("event_of", none), "event_of", "event_of", defArgs s_event_of, defBody s_event_of, defScope s_event_of, [], []⟩
def d_events : He.DefD := ⟨("events", none), "events", "events", defArgs s_events, defBody s_events, defScope s_events, [], []⟩
def d_Follows_init : He.DefD := ⟨("Follows", some "__init__"), "__init__", "Follows.__init__", defArgs s_Follows_init, defBody s_Follows_init, defScope s_Follows_init, [], []⟩
def d_Touched_init : He.DefD := ⟨("Touched", some "__init__"), "__init__", "Touched.__init__", defArgs s_Touched_init, defBody s_Touched_init, defScope s_Touched_init, [], []⟩
def d_joined_by : He.DefD := ⟨("joined_by", none), "joined_by", "joined_by", defArgs s_joined_by, defBody s_joined_by, defScope s_joined_by, [], []⟩
def d_spawned_by : He.DefD := ⟨("spawned_by", none), "spawned_by", "spawned_by", defArgs s_spawned_by, defBody s_spawned_by, defScope s_spawned_by, [], []⟩
def d_spawn_for : He.DefD := ⟨("spawn_for", none), "spawn_for", "spawn_for", defArgs s_spawn_for, defBody s_spawn_for, defScope s_spawn_for, [], []⟩
def d_line_before : He.DefD := ⟨("line_before", none), "line_before", "line_before", defArgs s_line_before, defBody s_line_before, defScope s_line_before, [], []⟩
def d_own_before : He.DefD := ⟨("own_before", none), "own_before", "own_before", defArgs s_own_before, defBody s_own_before, defScope s_own_before, [], []⟩
def d_Follows_closed : He.DefD := ⟨("Follows", some "closed"), "closed", "Follows.closed", defArgs s_Follows_closed, defBody s_Follows_closed, defScope s_Follows_closed, [], []⟩
def d_Follows_begin : He.DefD := ⟨("Follows", some "begin"), "begin", "Follows.begin", defArgs s_Follows_begin, defBody s_Follows_begin, defScope s_Follows_begin, [.bl false], []⟩
def d_name_of : He.DefD := ⟨("name_of", none), "name_of", "name_of", defArgs s_name_of, defBody s_name_of, defScope s_name_of, [], []⟩
def d_Touched_met : He.DefD := ⟨("Touched", some "met"), "met", "Touched.met", defArgs s_Touched_met, defBody s_Touched_met, defScope s_Touched_met, [], []⟩
def d_Follows_joined : He.DefD := ⟨("Follows", some "joined"), "joined", "Follows.joined", defArgs s_Follows_joined, defBody s_Follows_joined, defScope s_Follows_joined, [], []⟩
def d_is_fault : He.DefD := ⟨("is_fault", none), "is_fault", "is_fault", defArgs s_is_fault, defBody s_is_fault, defScope s_is_fault, [], []⟩
def d_Follows_take : He.DefD := ⟨("Follows", some "take"), "take", "Follows.take", defArgs s_Follows_take, defBody s_Follows_take, defScope s_Follows_take, [], []⟩
def d_Touched_take : He.DefD := ⟨("Touched", some "take"), "take", "Touched.take", defArgs s_Touched_take, defBody s_Touched_take, defScope s_Touched_take, [], []⟩
def d_counts_of : He.DefD := ⟨("counts_of", none), "counts_of", "counts_of", defArgs s_counts_of, defBody s_counts_of, defScope s_counts_of, [], []⟩
def d_least_log : He.DefD := ⟨("least_log", none), "least_log", "least_log", defArgs s_least_log, defBody s_least_log, defScope s_least_log, [], []⟩
def d_names_in : He.DefD := ⟨("names_in", none), "names_in", "names_in", defArgs s_names_in, defBody s_names_in, defScope s_names_in, [], []⟩
def d_turned : He.DefD := ⟨("turned", none), "turned", "turned", defArgs s_turned, defBody s_turned, defScope s_turned, [], []⟩
def d_is_event_name : He.DefD := ⟨("is_event_name", none), "is_event_name", "is_event_name", defArgs s_is_event_name, defBody s_is_event_name, defScope s_is_event_name, [], []⟩
def d_is_log : He.DefD := ⟨("is_log", none), "is_log", "is_log", defArgs s_is_log, defBody s_is_log, defScope s_is_log, [], []⟩
def d_look_at_log : He.DefD := ⟨("look_at_log", none), "look_at_log", "look_at_log", defArgs s_look_at_log, defBody s_look_at_log, defScope s_look_at_log, [], []⟩
def d_fits : He.DefD := ⟨("fits", none), "fits", "fits", defArgs s_fits, defBody s_fits, defScope s_fits, [], []⟩
def d_turned_right : He.DefD := ⟨("turned_right", none), "turned_right", "turned_right", defArgs s_turned_right, defBody s_turned_right, defScope s_turned_right, [], []⟩
def d_picture : He.DefD := ⟨("picture", none), "picture", "picture", defArgs s_picture, defBody s_picture, defScope s_picture, [], []⟩
def d_run : He.DefD := ⟨("run", none), "run", "run", defArgs s_run, defBody s_run, defScope s_run, [], []⟩
def d_may_do : He.DefD := ⟨("may_do", none), "may_do", "may_do", defArgs s_may_do, defBody s_may_do, defScope s_may_do, [], []⟩
def d_faults_at_last : He.DefD := ⟨("faults_at_last", none), "faults_at_last", "faults_at_last", defArgs s_faults_at_last, defBody s_faults_at_last, defScope s_faults_at_last, [], []⟩
def d_last_of : He.DefD := ⟨("last_of", none), "last_of", "last_of", defArgs s_last_of, defBody s_last_of, defScope s_last_of, [], []⟩
def d_woven : He.DefD := ⟨("woven", none), "woven", "woven", defArgs s_woven, defBody s_woven, defScope s_woven, [], []⟩
def d_default_thread : He.DefD := ⟨("default_thread", none), "default_thread", "default_thread", defArgs s_default_thread, defBody s_default_thread, defScope s_default_thread, [], []⟩
def d_by_default : He.DefD := ⟨("by_default", none), "by_default", "by_default", defArgs s_by_default, defBody s_by_default, defScope s_by_default, [], []⟩
def d_law : He.DefD := ⟨("law", none), "law", "law", defArgs s_law, defBody s_law, defScope s_law, [], []⟩
def fnL : List He.DefD := [d_law_draws, d_law_draw, d_is_whole, d_is_word, d_is_name, d_look_at_proc, d_is_place, d_is_instruction, d_Program_init, d_law_made, d_law_same, d_is_weaving, d_look_at_weaving, d_look_at_program, d_Machine_begin, d_Machine_init, d_Machine_next_one, d_Machine_is_other, d_Machine_waits, d_Machine_may_go, d_touches_of, d_needs, d_Machine_pass_on, d_Machine_cell, d_Machine_shared, d_wrap, d_divided, d_worked, d_Machine_plain, d_Machine_done, d_Machine_step, d_event_of, d_events, d_Follows_init, d_Touched_init, d_joined_by, d_spawned_by, d_spawn_for, d_line_before, d_own_before, d_Follows_closed, d_Follows_begin, d_name_of, d_Touched_met, d_Follows_joined, d_is_fault, d_Follows_take, d_Touched_take, d_counts_of, d_least_log, d_names_in, d_turned, d_is_event_name, d_is_log, d_look_at_log, d_fits, d_turned_right, d_picture, d_run, d_may_do, d_faults_at_last, d_last_of, d_woven, d_default_thread, d_by_default, d_law]
def exB (K : PySem.W.Frag) : Bool := ktB K (He.ga K "ALONE") kv_ALONE && (ktB K (He.ga K "CONDITIONS") kv_CONDITIONS && (ktB K (He.ga K "WORKS") kv_WORKS && (ktB K (He.ga K "SHARED") [.ref (elA K (He.ga K "SHARED") 0), .ref (elA K (He.ga K "SHARED") 1)] && (ktB K (elA K (He.ga K "SHARED") 0) [.str ⟨#[105, 110, 112, 117, 116, 115]⟩] && ktB K (elA K (He.ga K "SHARED") 1) [.str ⟨#[116, 104, 114, 101, 97, 100, 115]⟩]) && icB K (He.ga K "Program"))))
def fa : List He.Fa := [.free "abs", .free "all", .free "any", .free "bool", .free "enumerate", .free "int", .free "isinstance", .free "len", .free "list", .free "max", .free "range", .free "sorted", .free "str", .free "sum", .free "tuple", .glo "ALONE", .int "BOUNDS" (-2), .glo "CONDITIONS", .int "DEEP" (-8), .int "EMPTY" (-7), .int "FEW" (-12), .int "HALF" 2147483648, .int "MANY" (-11), .int "MOST_CELLS" 16, .int "MOST_CODE" 80, .int "MOST_FRAMES" 20, .int "MOST_LOCALS" 8, .int "MOST_LOCKS" 6, .int "MOST_PARAMS" 4, .int "MOST_PROCS" 12, .int "MOST_STEPS" 3000, .int "MOST_THREADS" 8, .int "OWNER" (-9), .glo "SHARED", .str "SMALL" ⟨#[97, 98, 99, 100, 101, 102, 103, 104, 105, 106, 107, 108, 109, 110, 111, 112, 113, 114, 115, 116, 117, 118, 119, 120, 121, 122]⟩, .int "THREAD" (-10), .int "WIDE" 4294967296, .glo "WORKS", .int "ZERO" (-3), .cls "Program", .glo "Program", .cls "Machine", .glo "Machine", .cls "Touched", .glo "Touched", .cls "Follows", .glo "Follows", .noat "Program" "by", .noat "Program" "cells", .noat "Program" "locks", .noat "Program" "procs", .noat "Program" "start", .noat "Machine" "asked", .noat "Machine" "cells", .noat "Machine" "end", .noat "Machine" "inputs", .noat "Machine" "owners", .noat "Machine" "program", .noat "Machine" "said", .noat "Machine" "steps", .noat "Machine" "threads", .noat "Touched" "last", .noat "Touched" "since", .noat "Follows" "lots", .noat "Follows" "rows", .noat "Follows" "stays", .glo "_law_draws", .glo "_law_draw", .glo "is_whole", .glo "is_word", .glo "is_name", .glo "look_at_proc", .glo "is_place", .glo "is_instruction", .mkr "Program", .glo "_law_made", .glo "_law_same", .glo "is_weaving", .glo "look_at_weaving", .glo "look_at_program", .meth "Machine" "begin", .mkr "Machine", .meth "Machine" "next_one", .meth "Machine" "is_other", .meth "Machine" "waits", .meth "Machine" "may_go", .glo "touches_of", .glo "needs", .meth "Machine" "pass_on", .meth "Machine" "cell", .meth "Machine" "shared", .glo "wrap", .glo "divided", .glo "worked", .meth "Machine" "plain", .meth "Machine" "done", .meth "Machine" "step", .glo "event_of", .glo "events", .mkr "Follows", .mkr "Touched", .glo "joined_by", .glo "spawned_by", .glo "spawn_for", .glo "line_before", .glo "own_before", .meth "Follows" "closed", .meth "Follows" "begin", .glo "name_of", .meth "Touched" "met", .meth "Follows" "joined", .glo "is_fault", .meth "Follows" "take", .meth "Touched" "take", .glo "counts_of", .glo "least_log", .glo "names_in", .glo "turned", .glo "is_event_name", .glo "is_log", .glo "look_at_log", .glo "fits", .glo "turned_right", .glo "picture", .glo "run", .glo "may_do", .glo "faults_at_last", .glo "last_of", .glo "woven", .glo "default_thread", .glo "by_default", .glo "law"]
/-! ### the head -/
abbrev Rw : PySem.W.OpenRow := PySem.W.OpenLaw.row PySem.Challenge.rw_wentback_k47_whole_logs_of_locks_and_joi
def hkE (n : Nat) (fa : List He.Fa) (fn : List He.DefD) (ex : PySem.W.Frag → Bool) : PySem.W.Hook where
  α := He.AlD × Bool
  obs := fun s => (He.obsDG n fa fn s.heap.get?, ex (He.frG s.heap.get? (He.asD s.heap.get? n)))
  val := fun _ => (He.valD fn, true)
  says := fun _ h => ∃ K : PySem.W.Frag, K.In h ∧ He.SaysD fa fn K ∧ ex K = true
  of := fun _ _ e => ⟨_, He.frG_in, congrArg Prod.fst e, congrArg Prod.snd e⟩
  keeps := fun _ _ _ ⟨K, hK, c⟩ k => ⟨K, PySem.W.Frag.In.keeps hK k, c⟩
abbrev hk : PySem.W.Hook := hkE 5 fa fnL exB
def ob (s : PySem.W.SharedT) : He.AlD × Bool := (He.obsDG 5 fa fnL (HandSHeadRun.getT s), exB (He.frG (HandSHeadRun.getT s) (He.asD (HandSHeadRun.getT s) 5)))
theorem ob_eq (s : PySem.W.SharedT) : ob s = hk.obs s.abs := by
  have e : HandSHeadRun.getT s = s.abs.heap.get? := funext (HandSHeadRun.getT_eq s)
  unfold ob
  rw [e]
  rfl
def lo0 : List Str := ["_wall", "__name__", "BackError", "BadProgram", "BadRun", "BadLog", "WIDE", "HALF", "WORKS", "CONDITIONS", "is_whole", "is_word", "wrap", "worked", "divided", "holds", "SMALL", "MOST_CELLS", "MOST_LOCKS", "MOST_PROCS", "MOST_PARAMS", "MOST_LOCALS", "MOST_CODE", "ALONE", "Program", "is_name", "look_at_program", "look_at_proc", "is_instruction", "is_place"]
def lo1 : List Str := ["needs", "MOST_THREADS", "MOST_FRAMES", "BOUNDS", "ZERO", "EMPTY", "DEEP", "OWNER", "THREAD", "MANY", "FEW", "Machine", "picture", "MOST_STEPS", "is_weaving", "look_at_weaving", "run", "fits", "default_thread", "by_default", "SHARED", "touches_of", "event_of", "events", "spawned_by", "joined_by", "is_fault", "line_before", "spawn_for", "own_before"]
def lo2 : List Str := ["Touched", "Follows", "name_of", "least_log", "counts_of", "is_event_name", "is_log", "look_at_log", "names_in", "woven", "may_do", "last_of", "faults_at_last", "turned", "turned_right", "_law_draws", "_law_draw", "_law_same", "_law_made"]
def loose : List Str := lo0 ++ lo1 ++ lo2
theorem run (w : World) : HandSHeadRun.RunEq Rw (PySem.W.view Rw.prog [87]) hk ob 14000 loose w := by
  intro os
  kernel_rfl
end K47
end

noncomputable section
namespace K47
open PySem Sh
def k_WORKS : List U := [.str ⟨#[97, 100, 100]⟩, .str ⟨#[115, 117, 98]⟩, .str ⟨#[109, 117, 108]⟩, .str ⟨#[100, 105, 118]⟩, .str ⟨#[114, 101, 109]⟩, .str ⟨#[97, 110, 100]⟩, .str ⟨#[111, 114]⟩, .str ⟨#[120, 111, 114]⟩]
def k_CONDITIONS : List U := [.str ⟨#[108, 116]⟩, .str ⟨#[108, 101]⟩, .str ⟨#[101, 113]⟩, .str ⟨#[110, 101]⟩, .str ⟨#[103, 116]⟩, .str ⟨#[103, 101]⟩]
def k_ALONE : List U := [.str ⟨#[97, 100, 100]⟩, .str ⟨#[115, 117, 98]⟩, .str ⟨#[109, 117, 108]⟩, .str ⟨#[100, 105, 118]⟩, .str ⟨#[114, 101, 109]⟩, .str ⟨#[97, 110, 100]⟩, .str ⟨#[111, 114]⟩, .str ⟨#[120, 111, 114]⟩, .str ⟨#[100, 117, 112]⟩, .str ⟨#[100, 114, 111, 112]⟩, .str ⟨#[110, 101, 103]⟩, .str ⟨#[103, 105, 118, 101]⟩, .str ⟨#[102, 101, 116, 99, 104]⟩, .str ⟨#[115, 101, 116]⟩, .str ⟨#[97, 115, 107]⟩, .str ⟨#[116, 101, 108, 108]⟩, .str ⟨#[106, 111, 105, 110]⟩]
def y_is_whole : XS := yRet (xAndV (xIsi 2 (xVar 0)) (xNotV (xIsi 1 (xVar 0))))
def m_is_whole : XF := xDef 1 1 y_is_whole
def y_is_word : XS := yRet (xAndV (xCall m_is_whole [] (xCons (xVar 0) (xNil))) (xChain gLeA gLtA (xUn gNeg (xC (.int 2147483648))) (xVar 0) (xC (.int 2147483648))))
def m_is_word : XF := xDef 1 1 y_is_word
def y_is_name : XS := yRet (xAndV (xIsi 3 (xVar 0)) (xAndV (xChain gLtA gLeA (xC (.int 0)) (xCB (f1 gLen) (xCons (xVar 0) (xNil))) (xC (.int 12))) (xCB (f1 gAll) (xCons (xLc (xStrI (xVar 0)) (hName 1) (xYes) (xOp (gIn false) (xVar 1) (xC (.str ⟨#[97, 98, 99, 100, 101, 102, 103, 104, 105, 106, 107, 108, 109, 110, 111, 112, 113, 114, 115, 116, 117, 118, 119, 120, 121, 122]⟩))) [1]) (xNil)))))
def m_is_name : XF := xDef 1 2 y_is_name
def y_look_at_proc : XS := ySeq (yIf (xOr (xNot (xTv (xIsi 5 (xVar 1)))) (xOr (xTv (xOp gNe (xCB (f1 gLen) (xCons (xVar 1) (xNil))) (xC (.int 4)))) (xNot (xTv (xCall m_is_name [] (xCons (xOp gIx (xVar 1) (xC (.int 0))) (xNil))))))) (yNo) (yNx)) (ySeq (yAsg (xVar 1) (hTup 4 (hCons (hName 2) (hCons (hName 3) (hCons (hName 4) (hCons (hName 5) (hNil))))))) (ySeq (yIf (xTv (xOp (gIn false) (xVar 2) (xFld 0 ⟨#[98, 121]⟩ (xVar 0)))) (yNo) (yNx)) (ySeq (yIf (xOr (xNot (xTv (xCall m_is_whole [] (xCons (xVar 3) (xNil))))) (xNot (xTv (xChain gLeA gLeA (xC (.int 0)) (xVar 3) (xC (.int 4)))))) (yNo) (yNx)) (ySeq (yIf (xOr (xNot (xTv (xCall m_is_whole [] (xCons (xVar 4) (xNil))))) (xNot (xTv (xChain gLeA gLeA (xC (.int 0)) (xVar 4) (xOp gSubA (xC (.int 8)) (xVar 3)))))) (yNo) (yNx)) (yIf (xOr (xNot (xTv (xIsi 5 (xVar 5)))) (xNot (xTv (xChain gLtA gLeA (xC (.int 0)) (xCB (f1 gLen) (xCons (xVar 5) (xNil))) (xC (.int 80)))))) (yNo) (yNx))))))
def m_look_at_proc : XF := xDef 2 6 y_look_at_proc
def y_is_place : XS := yRet (xAndV (xCall m_is_whole [] (xCons (xVar 1) (xNil))) (xChain gLeA gLtA (xC (.int 0)) (xVar 1) (xCB (f1 gLen) (xCons (xOp gIx (xVar 0) (xC (.int 3))) (xNil)))))
def m_is_place : XF := xDef 2 2 y_is_place
def y_is_instruction : XS := ySeq (yIf (xOr (xNot (xTv (xIsi 5 (xVar 2)))) (xOr (xTv (xOp gEq (xCB (f1 gLen) (xCons (xVar 2) (xNil))) (xC (.int 0)))) (xNot (xTv (xIsi 3 (xOp gIx (xVar 2) (xC (.int 0)))))))) (yRet (xC (.bl false))) (yNx)) (ySeq (yPar 3 4 (xCons (xOp gIx (xVar 2) (xC (.int 0))) (xCons (xSl (xVar 2) (xPart (xC (.int 1))) (xPnone)) (xNil)))) (ySeq (yIf (xTv (xOp (gIn false) (xVar 3) (xKt k_ALONE))) (yRet (xOp gEq (xCB (f1 gLen) (xCons (xVar 4) (xNil))) (xC (.int 0)))) (yNx)) (ySeq (yIf (xTv (xOp gEq (xVar 3) (xC (.str ⟨#[105, 102]⟩)))) (yRet (xAndV (xOp gEq (xCB (f1 gLen) (xCons (xVar 4) (xNil))) (xC (.int 2))) (xAndV (xIsi 3 (xOp gIx (xVar 4) (xC (.int 0)))) (xAndV (xOp (gIn false) (xOp gIx (xVar 4) (xC (.int 0))) (xKt k_CONDITIONS)) (xCall m_is_place [] (xCons (xVar 1) (xCons (xOp gIx (xVar 4) (xC (.int 1))) (xNil)))))))) (yNx)) (ySeq (yIf (xTv (xOp gNe (xCB (f1 gLen) (xCons (xVar 4) (xNil))) (xC (.int 1)))) (yRet (xC (.bl false))) (yNx)) (ySeq (yIf (xTv (xOp gEq (xVar 3) (xC (.str ⟨#[105, 110, 116]⟩)))) (yRet (xCall m_is_word [] (xCons (xOp gIx (xVar 4) (xC (.int 0))) (xNil)))) (yNx)) (ySeq (yIf (xTv (xOp (gIn false) (xVar 3) (xTup (xCons (xC (.str ⟨#[108, 111, 97, 100]⟩)) (xCons (xC (.str ⟨#[115, 116, 111, 114, 101]⟩)) (xNil)))))) (yRet (xAndV (xCall m_is_whole [] (xCons (xOp gIx (xVar 4) (xC (.int 0))) (xNil))) (xChain gLeA gLtA (xC (.int 0)) (xOp gIx (xVar 4) (xC (.int 0))) (xOp gAdd (xOp gIx (xVar 1) (xC (.int 1))) (xOp gIx (xVar 1) (xC (.int 2))))))) (yNx)) (ySeq (yIf (xTv (xOp gEq (xVar 3) (xC (.str ⟨#[103, 111, 116, 111]⟩)))) (yRet (xCall m_is_place [] (xCons (xVar 1) (xCons (xOp gIx (xVar 4) (xC (.int 0))) (xNil))))) (yNx)) (ySeq (yIf (xTv (xOp (gIn false) (xVar 3) (xTup (xCons (xC (.str ⟨#[103, 101, 116]⟩)) (xCons (xC (.str ⟨#[112, 117, 116]⟩)) (xCons (xC (.str ⟨#[116, 114, 97, 100, 101]⟩)) (xNil))))))) (yRet (xAndV (xCall m_is_whole [] (xCons (xOp gIx (xVar 4) (xC (.int 0))) (xNil))) (xChain gLeA gLtA (xC (.int 0)) (xOp gIx (xVar 4) (xC (.int 0))) (xCB (f1 gLen) (xCons (xFld 0 ⟨#[99, 101, 108, 108, 115]⟩ (xVar 0)) (xNil)))))) (yNx)) (ySeq (yIf (xTv (xOp (gIn false) (xVar 3) (xTup (xCons (xC (.str ⟨#[108, 111, 99, 107]⟩)) (xCons (xC (.str ⟨#[102, 114, 101, 101]⟩)) (xNil)))))) (yRet (xAndV (xCall m_is_whole [] (xCons (xOp gIx (xVar 4) (xC (.int 0))) (xNil))) (xChain gLeA gLtA (xC (.int 0)) (xOp gIx (xVar 4) (xC (.int 0))) (xFld 0 ⟨#[108, 111, 99, 107, 115]⟩ (xVar 0))))) (yNx)) (yRet (xAndV (xOp (gIn false) (xVar 3) (xTup (xCons (xC (.str ⟨#[99, 97, 108, 108]⟩)) (xCons (xC (.str ⟨#[115, 112, 97, 119, 110]⟩)) (xNil))))) (xAndV (xCall m_is_name [] (xCons (xOp gIx (xVar 4) (xC (.int 0))) (xNil))) (xOp (gIn false) (xOp gIx (xVar 4) (xC (.int 0))) (xFld 0 ⟨#[98, 121]⟩ (xVar 0)))))))))))))))
def m_is_instruction : XF := xDef 3 5 y_is_instruction
def y_Program_init : XS := ySeq (yIf (xOr (xNot (xTv (xIsi 5 (xVar 1)))) (xOr (xNot (xTv (xChain gLtA gLeA (xC (.int 0)) (xCB (f1 gLen) (xCons (xVar 1) (xNil))) (xC (.int 16))))) (xNot (xTv (xCB (f1 gAll) (xCons (xLc (xSeq (xVar 1)) (hName 5) (xYes) (xCall m_is_word [] (xCons (xVar 5) (xNil))) [5]) (xNil))))))) (yNo) (yNx)) (ySeq (yIf (xOr (xNot (xTv (xCall m_is_whole [] (xCons (xVar 2) (xNil))))) (xNot (xTv (xChain gLeA gLeA (xC (.int 0)) (xVar 2) (xC (.int 6)))))) (yNo) (yNx)) (ySeq (yIf (xOr (xNot (xTv (xIsi 5 (xVar 3)))) (xNot (xTv (xChain gLtA gLeA (xC (.int 0)) (xCB (f1 gLen) (xCons (xVar 3) (xNil))) (xC (.int 12)))))) (yNo) (yNx)) (ySeq (yFld 0 ⟨#[99, 101, 108, 108, 115]⟩ (xVar 0) (xVar 1)) (ySeq (yFld 0 ⟨#[108, 111, 99, 107, 115]⟩ (xVar 0) (xVar 2)) (ySeq (yFld 0 ⟨#[112, 114, 111, 99, 115]⟩ (xVar 0) (xVar 3)) (ySeq (yFld 0 ⟨#[115, 116, 97, 114, 116]⟩ (xVar 0) (xVar 4)) (ySeq (yFld 0 ⟨#[98, 121]⟩ (xVar 0) (xNewK)) (ySeq (yFor (xSeq (xVar 3)) (hName 5) (ySeq (yDrop (xCall m_look_at_proc [] (xCons (xVar 0) (xCons (xVar 5) (xNil))))) (yAsg (xVar 5) (hSub (xFld 0 ⟨#[98, 121]⟩ (xVar 0)) (xOp gIx (xVar 5) (xC (.int 0))))))) (ySeq (yFor (xSeq (xVar 3)) (hName 5) (yFor (xEnA (xCons (xOp gIx (xVar 5) (xC (.int 3))) (xNil))) (hTup 2 (hCons (hName 6) (hCons (hName 7) (hNil)))) (yIf (xNot (xTv (xCall m_is_instruction [] (xCons (xVar 0) (xCons (xVar 5) (xCons (xVar 7) (xNil))))))) (yNo) (yNx)))) (yIf (xOr (xNot (xTv (xCall m_is_name [] (xCons (xVar 4) (xNil))))) (xOr (xTv (xOp (gIn true) (xVar 4) (xFld 0 ⟨#[98, 121]⟩ (xVar 0)))) (xTv (xOp gGt (xOp gIx (xOp gIx (xFld 0 ⟨#[98, 121]⟩ (xVar 0)) (xVar 4)) (xC (.int 1))) (xC (.int 0)))))) (yNo) (yNx)))))))))))
def m_Program_init : XF := xDef 5 8 y_Program_init
def y_law_made : XS := yRet (xMake 0 m_Program_init [] (xCons (xVar 2) (xCons (xVar 3) (xCons (xTup (xCons (xTup (xCons (xC (.str ⟨#[115, 116, 97, 114, 116]⟩)) (xCons (xC (.int 0)) (xCons (xC (.int 2)) (xCons (xCB (f1 gTuple) (xCons (xVar 0) (xNil))) (xNil)))))) (xCons (xTup (xCons (xC (.str ⟨#[119, 111, 114, 107]⟩)) (xCons (xC (.int 1)) (xCons (xC (.int 0)) (xCons (xCB (f1 gTuple) (xCons (xVar 1) (xNil))) (xNil)))))) (xNil)))) (xCons (xC (.str ⟨#[115, 116, 97, 114, 116]⟩)) (xNil))))))
def m_law_made : XF := xDef 4 4 y_law_made
def y_law_same (rec : XF) : XS := ySeq (yIf (xOr (xTv (xIsi 5 (xVar 1))) (xTv (xIsi 4 (xVar 1)))) (ySeq (yIf (xOr (xTv (xOp gNe (xIsi 5 (xVar 1)) (xIsi 5 (xVar 0)))) (xTv (xOp gNe (xIsi 4 (xVar 1)) (xIsi 4 (xVar 0))))) (yRet (xC (.bl false))) (yNx)) (ySeq (yIf (xTv (xOp gNe (xCB (f1 gLen) (xCons (xVar 0) (xNil))) (xCB (f1 gLen) (xCons (xVar 1) (xNil))))) (yRet (xC (.bl false))) (yNx)) (yRet (xOp gEq (xCB (f1 gLen) (xCons (xLc (xRng1 (xCons (xCB (f1 gLen) (xCons (xVar 1) (xNil))) (xNil))) (hName 2) (xNot (xTv (xCall rec [] (xCons (xOp gIx (xVar 0) (xVar 2)) (xCons (xOp gIx (xVar 1) (xVar 2)) (xNil)))))) (xVar 2) [2]) (xNil))) (xC (.int 0)))))) (yNx)) (ySeq (yIf (xTv (xIsi 3 (xVar 1))) (yRet (xAndV (xIsi 3 (xVar 0)) (xOp gEq (xVar 0) (xVar 1)))) (yNx)) (ySeq (yIf (xTv (xOp (gIsN false) (xVar 1) (xC .non))) (yRet (xOp (gIsN false) (xVar 0) (xC .non))) (yNx)) (ySeq (yIf (xOr (xTv (xIsi 1 (xVar 1))) (xTv (xIsi 1 (xVar 0)))) (yRet (xAndV (xIsi 1 (xVar 1)) (xAndV (xIsi 1 (xVar 0)) (xOp gEq (xVar 0) (xVar 1))))) (yNx)) (yRet (xAndV (xIsi 2 (xVar 0)) (xAndV (xIsi 2 (xVar 1)) (xOp gEq (xVar 0) (xVar 1))))))))
def m_law_same : Nat → XF
  | 0 => fun _ _ => none
  | d + 1 => xDef 2 3 (y_law_same (m_law_same d))
def y_is_weaving : XS := ySeq (yIf (xOr (xNot (xTv (xIsi 5 (xVar 0)))) (xTv (xOp gGt (xCB (f1 gLen) (xCons (xVar 0) (xNil))) (xC (.int 3000))))) (yRet (xC (.bl false))) (yNx)) (yRet (xCB (f1 gAll) (xCons (xLc (xSeq (xVar 0)) (hName 1) (xYes) (xAndV (xCall m_is_whole [] (xCons (xVar 1) (xNil))) (xChain gLeA gLtA (xC (.int 0)) (xVar 1) (xC (.int 8)))) [1]) (xNil))))
def m_is_weaving : XF := xDef 1 2 y_is_weaving
def y_look_at_weaving : XS := yIf (xNot (xTv (xCall m_is_weaving [] (xCons (xVar 0) (xNil))))) (yNo) (yNx)
def m_look_at_weaving : XF := xDef 1 1 y_look_at_weaving
def y_look_at_program : XS := yIf (xNot (xTv (xIsC 0 (xVar 0)))) (yNo) (yNx)
def m_look_at_program : XF := xDef 1 1 y_look_at_program
def y_Machine_begin : XS := ySeq (yAsg (xOp gIx (xFld 0 ⟨#[98, 121]⟩ (xFld 1 ⟨#[112, 114, 111, 103, 114, 97, 109]⟩ (xVar 0))) (xVar 1)) (hName 3)) (ySeq (yDrop (xLM gAppend (xFld 1 ⟨#[116, 104, 114, 101, 97, 100, 115]⟩ (xVar 0)) (xCons (xLst (xCons (xLst (xCons (xLst (xCons (xVar 1) (xCons (xC (.int 0)) (xCons (xOp gAdd (xVar 2) (xOp gMul (xLst (xCons (xC (.int 0)) (xNil))) (xOp gIx (xVar 3) (xC (.int 2))))) (xCons (xLst (xNil)) (xNil)))))) (xNil))) (xCons (xC .non) (xNil)))) (xNil)))) (yRet (xOp gSubA (xCB (f1 gLen) (xCons (xFld 1 ⟨#[116, 104, 114, 101, 97, 100, 115]⟩ (xVar 0)) (xNil))) (xC (.int 1)))))
def m_Machine_begin : XF := xDef 3 4 y_Machine_begin
def y_Machine_init : XS := ySeq (yDrop (xCall m_look_at_program [] (xCons (xVar 1) (xNil)))) (ySeq (yIf (xOr (xNot (xTv (xIsi 5 (xVar 2)))) (xNot (xTv (xCB (f1 gAll) (xCons (xLc (xSeq (xVar 2)) (hName 3) (xYes) (xCall m_is_word [] (xCons (xVar 3) (xNil))) [3]) (xNil)))))) (yNo) (yNx)) (ySeq (yFld 1 ⟨#[112, 114, 111, 103, 114, 97, 109]⟩ (xVar 0) (xVar 1)) (ySeq (yFld 1 ⟨#[105, 110, 112, 117, 116, 115]⟩ (xVar 0) (xVar 2)) (ySeq (yFld 1 ⟨#[116, 104, 114, 101, 97, 100, 115]⟩ (xVar 0) (xLst (xNil))) (ySeq (yFld 1 ⟨#[99, 101, 108, 108, 115]⟩ (xVar 0) (xCB (f1 gList) (xCons (xFld 0 ⟨#[99, 101, 108, 108, 115]⟩ (xVar 1)) (xNil)))) (ySeq (yFld 1 ⟨#[111, 119, 110, 101, 114, 115]⟩ (xVar 0) (xOp gMul (xLst (xCons (xC .non) (xNil))) (xFld 0 ⟨#[108, 111, 99, 107, 115]⟩ (xVar 1)))) (ySeq (yFld 1 ⟨#[97, 115, 107, 101, 100]⟩ (xVar 0) (xC (.int 0))) (ySeq (yFld 1 ⟨#[115, 97, 105, 100]⟩ (xVar 0) (xLst (xNil))) (ySeq (yFld 1 ⟨#[115, 116, 101, 112, 115]⟩ (xVar 0) (xC (.int 0))) (ySeq (yFld 1 ⟨#[101, 110, 100]⟩ (xVar 0) (xC .non)) (yDrop (xMeth 1 ⟨#[98, 101, 103, 105, 110]⟩ m_Machine_begin [] (xVar 0) (xCons (xFld 0 ⟨#[115, 116, 97, 114, 116]⟩ (xVar 1)) (xCons (xLst (xNil)) (xNil)))))))))))))))
def m_Machine_init : XF := xDef 3 4 y_Machine_init
def y_Machine_next_one : XS := ySeq (yAsg (xOp gIx (xOp gIx (xFld 1 ⟨#[116, 104, 114, 101, 97, 100, 115]⟩ (xVar 0)) (xVar 1)) (xC (.int 0))) (hName 2)) (ySeq (yIf (xTv (xOp gEq (xCB (f1 gLen) (xCons (xVar 2) (xNil))) (xC (.int 0)))) (yRet (xC .non)) (yNx)) (ySeq (yAsg (xOp gIx (xOp gIx (xFld 0 ⟨#[98, 121]⟩ (xFld 1 ⟨#[112, 114, 111, 103, 114, 97, 109]⟩ (xVar 0))) (xOp gIx (xOp gIx (xVar 2) (xUn gNeg (xC (.int 1)))) (xC (.int 0)))) (xC (.int 3))) (hName 3)) (yRet (xIf (xTv (xOp gLtA (xOp gIx (xOp gIx (xVar 2) (xUn gNeg (xC (.int 1)))) (xC (.int 1))) (xCB (f1 gLen) (xCons (xVar 3) (xNil))))) (xOp gIx (xVar 3) (xOp gIx (xOp gIx (xVar 2) (xUn gNeg (xC (.int 1)))) (xC (.int 1)))) (xTup (xCons (xC (.str ⟨#[101, 110, 100]⟩)) (xNil)))))))
def m_Machine_next_one : XF := xDef 2 4 y_Machine_next_one
def y_Machine_is_other : XS := yRet (xAndV (xChain gLeA gLtA (xC (.int 0)) (xVar 2) (xCB (f1 gLen) (xCons (xFld 1 ⟨#[116, 104, 114, 101, 97, 100, 115]⟩ (xVar 0)) (xNil)))) (xOp gNe (xVar 2) (xVar 1)))
def m_Machine_is_other : XF := xDef 3 3 y_Machine_is_other
def y_Machine_waits : XS := ySeq (yPar 2 3 (xCons (xMeth 1 ⟨#[110, 101, 120, 116, 95, 111, 110, 101]⟩ m_Machine_next_one [] (xVar 0) (xCons (xVar 1) (xNil))) (xCons (xOp gIx (xOp gIx (xOp gIx (xOp gIx (xFld 1 ⟨#[116, 104, 114, 101, 97, 100, 115]⟩ (xVar 0)) (xVar 1)) (xC (.int 0))) (xUn gNeg (xC (.int 1)))) (xC (.int 3))) (xNil)))) (ySeq (yIf (xTv (xOp gEq (xOp gIx (xVar 2) (xC (.int 0))) (xC (.str ⟨#[108, 111, 99, 107]⟩)))) (yRet (xOp (gIsN true) (xOp gIx (xFld 1 ⟨#[111, 119, 110, 101, 114, 115]⟩ (xVar 0)) (xOp gIx (xVar 2) (xC (.int 1)))) (xC .non))) (yNx)) (ySeq (yIf (xAnd (xTv (xOp gEq (xOp gIx (xVar 2) (xC (.int 0))) (xC (.str ⟨#[106, 111, 105, 110]⟩)))) (xAnd (xTv (xOp gGt (xCB (f1 gLen) (xCons (xVar 3) (xNil))) (xC (.int 0)))) (xTv (xMeth 1 ⟨#[105, 115, 95, 111, 116, 104, 101, 114]⟩ m_Machine_is_other [] (xVar 0) (xCons (xVar 1) (xCons (xOp gIx (xVar 3) (xUn gNeg (xC (.int 1)))) (xNil))))))) (yRet (xOp gGt (xCB (f1 gLen) (xCons (xOp gIx (xOp gIx (xFld 1 ⟨#[116, 104, 114, 101, 97, 100, 115]⟩ (xVar 0)) (xOp gIx (xVar 3) (xUn gNeg (xC (.int 1))))) (xC (.int 0))) (xNil))) (xC (.int 0)))) (yNx)) (yRet (xC (.bl false)))))
def m_Machine_waits : XF := xDef 2 4 y_Machine_waits
def y_Machine_may_go : XS := ySeq (yIf (xTv (xOp (gIsN true) (xFld 1 ⟨#[101, 110, 100]⟩ (xVar 0)) (xC .non))) (yRet (xTup (xNil))) (yNx)) (yRet (xCB (f1 gTuple) (xCons (xLc (xEnA (xCons (xFld 1 ⟨#[116, 104, 114, 101, 97, 100, 115]⟩ (xVar 0)) (xNil))) (hTup 2 (hCons (hName 1) (hCons (hName 2) (hNil)))) (xAnd (xTv (xOp gGt (xCB (f1 gLen) (xCons (xOp gIx (xVar 2) (xC (.int 0))) (xNil))) (xC (.int 0)))) (xNot (xTv (xMeth 1 ⟨#[119, 97, 105, 116, 115]⟩ m_Machine_waits [] (xVar 0) (xCons (xVar 1) (xNil)))))) (xVar 1) [1, 2]) (xNil))))
def m_Machine_may_go : XF := xDef 1 3 y_Machine_may_go
def y_touches_of : XS := ySeq (yAsg (xOp gIx (xOp gIx (xOp gIx (xFld 1 ⟨#[116, 104, 114, 101, 97, 100, 115]⟩ (xVar 0)) (xVar 1)) (xC (.int 0))) (xUn gNeg (xC (.int 1)))) (hName 2)) (ySeq (yPar 4 5 (xCons (xMeth 1 ⟨#[110, 101, 120, 116, 95, 111, 110, 101]⟩ m_Machine_next_one [] (xVar 0) (xCons (xVar 1) (xNil))) (xCons (xOp gIx (xVar 2) (xC (.int 3))) (xNil)))) (ySeq (yAsg (xOp gIx (xVar 4) (xC (.int 0))) (hName 3)) (ySeq (yIf (xTv (xOp gEq (xVar 3) (xC (.str ⟨#[103, 101, 116]⟩)))) (yRet (xTup (xCons (xTup (xCons (xTup (xCons (xC (.str ⟨#[99, 101, 108, 108]⟩)) (xCons (xOp gIx (xVar 4) (xC (.int 1))) (xNil)))) (xCons (xC (.str ⟨#[114, 101, 97, 100]⟩)) (xNil)))) (xNil)))) (yNx)) (ySeq (yIf (xTv (xOp gEq (xVar 3) (xC (.str ⟨#[112, 117, 116]⟩)))) (yRet (xTup (xCons (xTup (xCons (xTup (xCons (xC (.str ⟨#[99, 101, 108, 108]⟩)) (xCons (xOp gIx (xVar 4) (xC (.int 1))) (xNil)))) (xCons (xC (.str ⟨#[119, 114, 105, 116, 101]⟩)) (xNil)))) (xNil)))) (yNx)) (ySeq (yIf (xTv (xOp gEq (xVar 3) (xC (.str ⟨#[116, 114, 97, 100, 101]⟩)))) (yRet (xTup (xCons (xTup (xCons (xTup (xCons (xC (.str ⟨#[99, 101, 108, 108]⟩)) (xCons (xOp gIx (xVar 4) (xC (.int 1))) (xNil)))) (xCons (xC (.str ⟨#[98, 111, 116, 104]⟩)) (xNil)))) (xNil)))) (yNx)) (ySeq (yIf (xAnd (xTv (xOp gEq (xVar 3) (xC (.str ⟨#[102, 101, 116, 99, 104]⟩)))) (xTv (xOp gGt (xCB (f1 gLen) (xCons (xVar 5) (xNil))) (xC (.int 0))))) (yRet (xTup (xCons (xTup (xCons (xTup (xCons (xC (.str ⟨#[99, 101, 108, 108]⟩)) (xCons (xOp gIx (xVar 5) (xUn gNeg (xC (.int 1)))) (xNil)))) (xCons (xC (.str ⟨#[114, 101, 97, 100]⟩)) (xNil)))) (xNil)))) (yNx)) (ySeq (yIf (xAnd (xTv (xOp gEq (xVar 3) (xC (.str ⟨#[115, 101, 116]⟩)))) (xTv (xOp gGt (xCB (f1 gLen) (xCons (xVar 5) (xNil))) (xC (.int 1))))) (yRet (xTup (xCons (xTup (xCons (xTup (xCons (xC (.str ⟨#[99, 101, 108, 108]⟩)) (xCons (xOp gIx (xVar 5) (xUn gNeg (xC (.int 2)))) (xNil)))) (xCons (xC (.str ⟨#[119, 114, 105, 116, 101]⟩)) (xNil)))) (xNil)))) (yNx)) (ySeq (yIf (xTv (xOp (gIn false) (xVar 3) (xTup (xCons (xC (.str ⟨#[108, 111, 99, 107]⟩)) (xCons (xC (.str ⟨#[102, 114, 101, 101]⟩)) (xNil)))))) (yRet (xTup (xCons (xTup (xCons (xTup (xCons (xC (.str ⟨#[108, 111, 99, 107]⟩)) (xCons (xOp gIx (xVar 4) (xC (.int 1))) (xNil)))) (xCons (xC (.str ⟨#[98, 111, 116, 104]⟩)) (xNil)))) (xNil)))) (yNx)) (ySeq (yIf (xTv (xOp gEq (xVar 3) (xC (.str ⟨#[97, 115, 107]⟩)))) (yRet (xTup (xCons (xTup (xCons (xTup (xCons (xC (.str ⟨#[105, 110, 112, 117, 116, 115]⟩)) (xNil))) (xCons (xC (.str ⟨#[98, 111, 116, 104]⟩)) (xNil)))) (xNil)))) (yNx)) (ySeq (yIf (xTv (xOp gEq (xVar 3) (xC (.str ⟨#[116, 101, 108, 108]⟩)))) (yRet (xTup (xCons (xTup (xCons (xTup (xCons (xC (.str ⟨#[116, 111, 108, 100]⟩)) (xNil))) (xCons (xC (.str ⟨#[98, 111, 116, 104]⟩)) (xNil)))) (xNil)))) (yNx)) (ySeq (yIf (xTv (xOp gEq (xVar 3) (xC (.str ⟨#[115, 112, 97, 119, 110]⟩)))) (yRet (xTup (xCons (xTup (xCons (xTup (xCons (xC (.str ⟨#[116, 104, 114, 101, 97, 100, 115]⟩)) (xNil))) (xCons (xC (.str ⟨#[98, 111, 116, 104]⟩)) (xNil)))) (xCons (xTup (xCons (xTup (xCons (xC (.str ⟨#[116, 104, 114, 101, 97, 100]⟩)) (xCons (xCB (f1 gLen) (xCons (xFld 1 ⟨#[116, 104, 114, 101, 97, 100, 115]⟩ (xVar 0)) (xNil))) (xNil)))) (xCons (xC (.str ⟨#[119, 114, 105, 116, 101]⟩)) (xNil)))) (xNil))))) (yNx)) (ySeq (yIf (xAnd (xTv (xOp gEq (xVar 3) (xC (.str ⟨#[103, 105, 118, 101]⟩)))) (xTv (xOp gEq (xCB (f1 gLen) (xCons (xOp gIx (xOp gIx (xFld 1 ⟨#[116, 104, 114, 101, 97, 100, 115]⟩ (xVar 0)) (xVar 1)) (xC (.int 0))) (xNil))) (xC (.int 1))))) (yRet (xTup (xCons (xTup (xCons (xTup (xCons (xC (.str ⟨#[116, 104, 114, 101, 97, 100]⟩)) (xCons (xVar 1) (xNil)))) (xCons (xC (.str ⟨#[119, 114, 105, 116, 101]⟩)) (xNil)))) (xNil)))) (yNx)) (yRet (xIf (xAnd (xTv (xOp gEq (xVar 3) (xC (.str ⟨#[106, 111, 105, 110]⟩)))) (xTv (xOp gGt (xCB (f1 gLen) (xCons (xVar 5) (xNil))) (xC (.int 0))))) (xTup (xCons (xTup (xCons (xTup (xCons (xC (.str ⟨#[116, 104, 114, 101, 97, 100]⟩)) (xCons (xOp gIx (xVar 5) (xUn gNeg (xC (.int 1)))) (xNil)))) (xCons (xC (.str ⟨#[114, 101, 97, 100]⟩)) (xNil)))) (xNil))) (xTup (xNil))))))))))))))))
def m_touches_of : XF := xDef 2 6 y_touches_of
def y_needs : XS := ySeq (yAsg (xOp gIx (xVar 1) (xC (.int 0))) (hName 2)) (ySeq (yIf (xOr (xTv (xOp (gIn false) (xVar 2) (xKt k_WORKS))) (xTv (xOp (gIn false) (xVar 2) (xTup (xCons (xC (.str ⟨#[105, 102]⟩)) (xCons (xC (.str ⟨#[115, 101, 116]⟩)) (xNil))))))) (yRet (xC (.int 2))) (yNx)) (ySeq (yIf (xTv (xOp (gIn false) (xVar 2) (xTup (xCons (xC (.str ⟨#[115, 116, 111, 114, 101]⟩)) (xCons (xC (.str ⟨#[100, 117, 112]⟩)) (xCons (xC (.str ⟨#[100, 114, 111, 112]⟩)) (xCons (xC (.str ⟨#[110, 101, 103]⟩)) (xCons (xC (.str ⟨#[103, 105, 118, 101]⟩)) (xCons (xC (.str ⟨#[112, 117, 116]⟩)) (xCons (xC (.str ⟨#[102, 101, 116, 99, 104]⟩)) (xCons (xC (.str ⟨#[116, 114, 97, 100, 101]⟩)) (xCons (xC (.str ⟨#[116, 101, 108, 108]⟩)) (xCons (xC (.str ⟨#[106, 111, 105, 110]⟩)) (xNil)))))))))))))) (yRet (xC (.int 1))) (yNx)) (yRet (xIf (xTv (xOp (gIn false) (xVar 2) (xTup (xCons (xC (.str ⟨#[99, 97, 108, 108]⟩)) (xCons (xC (.str ⟨#[115, 112, 97, 119, 110]⟩)) (xNil)))))) (xOp gIx (xOp gIx (xFld 0 ⟨#[98, 121]⟩ (xVar 0)) (xOp gIx (xVar 1) (xC (.int 1)))) (xC (.int 1))) (xC (.int 0))))))
def m_needs : XF := xDef 2 3 y_needs
def y_Machine_pass_on : XS := ySeq (yPar3 5 6 7 (xCons (xOp gIx (xVar 3) (xC (.int 0))) (xCons (xOp gIx (xVar 2) (xC (.int 3))) (xCons (xOp gIx (xOp gIx (xFld 1 ⟨#[116, 104, 114, 101, 97, 100, 115]⟩ (xVar 0)) (xVar 1)) (xC (.int 0))) (xNil))))) (ySeq (yIf (xTv (xOp gEq (xVar 5) (xC (.str ⟨#[103, 105, 118, 101]⟩)))) (ySeq (yAsg (xLM gPop (xVar 6) (xNil)) (hName 8)) (ySeq (yDrop (xLM gPop (xVar 7) (xNil))) (ySeq (yIf (xTv (xOp gEq (xCB (f1 gLen) (xCons (xVar 7) (xNil))) (xC (.int 0)))) (yAsg (xVar 8) (hSub (xOp gIx (xFld 1 ⟨#[116, 104, 114, 101, 97, 100, 115]⟩ (xVar 0)) (xVar 1)) (xC (.int 1)))) (ySeq (yDrop (xLM gAppend (xOp gIx (xOp gIx (xVar 7) (xUn gNeg (xC (.int 1)))) (xC (.int 3))) (xCons (xVar 8) (xNil)))) (yAugS gAddI (xOp gIx (xVar 7) (xUn gNeg (xC (.int 1)))) (xC (.int 1)) (xC (.int 1))))) (yRet (xC .non))))) (yNx)) (ySeq (yIf (xTv (xOp gEq (xVar 5) (xC (.str ⟨#[106, 111, 105, 110]⟩)))) (ySeq (yIf (xNot (xTv (xMeth 1 ⟨#[105, 115, 95, 111, 116, 104, 101, 114]⟩ m_Machine_is_other [] (xVar 0) (xCons (xVar 1) (xCons (xOp gIx (xVar 6) (xUn gNeg (xC (.int 1)))) (xNil)))))) (yRet (xC (.int (-10)))) (yNx)) (ySeq (yDrop (xLM gAppend (xVar 6) (xCons (xOp gIx (xOp gIx (xFld 1 ⟨#[116, 104, 114, 101, 97, 100, 115]⟩ (xVar 0)) (xLM gPop (xVar 6) (xNil))) (xC (.int 1))) (xNil)))) (ySeq (yAugS gAddI (xVar 2) (xC (.int 1)) (xC (.int 1))) (yRet (xC .non))))) (yNx)) (ySeq (yIf (xAnd (xTv (xOp gEq (xVar 5) (xC (.str ⟨#[99, 97, 108, 108]⟩)))) (xTv (xOp gEq (xCB (f1 gLen) (xCons (xVar 7) (xNil))) (xC (.int 20))))) (yRet (xC (.int (-8)))) (yNx)) (ySeq (yIf (xAnd (xTv (xOp gEq (xVar 5) (xC (.str ⟨#[115, 112, 97, 119, 110]⟩)))) (xTv (xOp gEq (xCB (f1 gLen) (xCons (xFld 1 ⟨#[116, 104, 114, 101, 97, 100, 115]⟩ (xVar 0)) (xNil))) (xC (.int 8))))) (yRet (xC (.int (-11)))) (yNx)) (ySeq (yAsg (xOp gSubA (xCB (f1 gLen) (xCons (xVar 6) (xNil))) (xOp gIx (xOp gIx (xFld 0 ⟨#[98, 121]⟩ (xFld 1 ⟨#[112, 114, 111, 103, 114, 97, 109]⟩ (xVar 0))) (xOp gIx (xVar 3) (xC (.int 1)))) (xC (.int 1)))) (hName 4)) (ySeq (yAsg (xTup (xCons (xSl (xVar 6) (xPart (xVar 4)) (xPnone)) (xCons (xSl (xVar 6) (xPnone) (xPart (xVar 4))) (xNil)))) (hTup 2 (hCons (hName 9) (hCons (hSub (xVar 2) (xC (.int 3))) (hNil))))) (ySeq (yIf (xTv (xOp gEq (xVar 5) (xC (.str ⟨#[99, 97, 108, 108]⟩)))) (yDrop (xLM gAppend (xVar 7) (xCons (xLst (xCons (xOp gIx (xVar 3) (xC (.int 1))) (xCons (xC (.int 0)) (xCons (xOp gAdd (xVar 9) (xOp gMul (xLst (xCons (xC (.int 0)) (xNil))) (xOp gIx (xOp gIx (xFld 0 ⟨#[98, 121]⟩ (xFld 1 ⟨#[112, 114, 111, 103, 114, 97, 109]⟩ (xVar 0))) (xOp gIx (xVar 3) (xC (.int 1)))) (xC (.int 2))))) (xCons (xLst (xNil)) (xNil)))))) (xNil)))) (ySeq (yDrop (xLM gAppend (xOp gIx (xVar 2) (xC (.int 3))) (xCons (xMeth 1 ⟨#[98, 101, 103, 105, 110]⟩ m_Machine_begin [] (xVar 0) (xCons (xOp gIx (xVar 3) (xC (.int 1))) (xCons (xVar 9) (xNil)))) (xNil)))) (yAugS gAddI (xVar 2) (xC (.int 1)) (xC (.int 1))))) (yRet (xC .non)))))))))
def m_Machine_pass_on : XF := xDef 4 10 y_Machine_pass_on
def y_Machine_cell : XS := ySeq (yPar 3 4 (xCons (xOp gIx (xVar 2) (xC (.int 0))) (xCons (xOp gIx (xVar 1) (xC (.int 3))) (xNil)))) (ySeq (yIf (xTv (xOp (gIn false) (xVar 3) (xTup (xCons (xC (.str ⟨#[102, 101, 116, 99, 104]⟩)) (xCons (xC (.str ⟨#[115, 101, 116]⟩)) (xNil)))))) (ySeq (yAsg (xIf (xTv (xOp gEq (xVar 3) (xC (.str ⟨#[102, 101, 116, 99, 104]⟩)))) (xOp gIx (xVar 4) (xUn gNeg (xC (.int 1)))) (xOp gIx (xVar 4) (xUn gNeg (xC (.int 2))))) (hName 5)) (yIf (xNot (xTv (xChain gLeA gLtA (xC (.int 0)) (xVar 5) (xCB (f1 gLen) (xCons (xFld 1 ⟨#[99, 101, 108, 108, 115]⟩ (xVar 0)) (xNil)))))) (yRet (xC (.int (-2)))) (yNx))) (yAsg (xOp gIx (xVar 2) (xC (.int 1))) (hName 5))) (ySeq (yIf (xTv (xOp gEq (xVar 3) (xC (.str ⟨#[103, 101, 116]⟩)))) (yDrop (xLM gAppend (xVar 4) (xCons (xOp gIx (xFld 1 ⟨#[99, 101, 108, 108, 115]⟩ (xVar 0)) (xVar 5)) (xNil)))) (yIf (xTv (xOp gEq (xVar 3) (xC (.str ⟨#[102, 101, 116, 99, 104]⟩)))) (yAsg (xOp gAdd (xSl (xVar 4) (xPnone) (xPart (xUn gNeg (xC (.int 1))))) (xLst (xCons (xOp gIx (xFld 1 ⟨#[99, 101, 108, 108, 115]⟩ (xVar 0)) (xVar 5)) (xNil)))) (hSub (xVar 1) (xC (.int 3)))) (yIf (xTv (xOp gEq (xVar 3) (xC (.str ⟨#[116, 114, 97, 100, 101]⟩)))) (ySeq (yAsg (xOp gIx (xFld 1 ⟨#[99, 101, 108, 108, 115]⟩ (xVar 0)) (xVar 5)) (hName 6)) (ySeq (yAsg (xLM gPop (xVar 4) (xNil)) (hSub (xFld 1 ⟨#[99, 101, 108, 108, 115]⟩ (xVar 0)) (xVar 5))) (yDrop (xLM gAppend (xVar 4) (xCons (xVar 6) (xNil)))))) (ySeq (yAsg (xOp gIx (xVar 4) (xUn gNeg (xC (.int 1)))) (hSub (xFld 1 ⟨#[99, 101, 108, 108, 115]⟩ (xVar 0)) (xVar 5))) (yAsg (xIf (xTv (xOp gEq (xVar 3) (xC (.str ⟨#[112, 117, 116]⟩)))) (xSl (xVar 4) (xPnone) (xPart (xUn gNeg (xC (.int 1))))) (xSl (xVar 4) (xPnone) (xPart (xUn gNeg (xC (.int 2)))))) (hSub (xVar 1) (xC (.int 3)))))))) (ySeq (yAugS gAddI (xVar 1) (xC (.int 1)) (xC (.int 1))) (yRet (xC .non)))))
def m_Machine_cell : XF := xDef 3 7 y_Machine_cell
def y_Machine_shared : XS := ySeq (yAsg (xOp gIx (xVar 3) (xC (.int 0))) (hName 4)) (ySeq (yIf (xTv (xOp gEq (xVar 4) (xC (.str ⟨#[108, 111, 99, 107]⟩)))) (yAsg (xVar 1) (hSub (xFld 1 ⟨#[111, 119, 110, 101, 114, 115]⟩ (xVar 0)) (xOp gIx (xVar 3) (xC (.int 1))))) (yIf (xTv (xOp gEq (xVar 4) (xC (.str ⟨#[102, 114, 101, 101]⟩)))) (ySeq (yIf (xTv (xOp gNe (xOp gIx (xFld 1 ⟨#[111, 119, 110, 101, 114, 115]⟩ (xVar 0)) (xOp gIx (xVar 3) (xC (.int 1)))) (xVar 1))) (yRet (xC (.int (-9)))) (yNx)) (yAsg (xC .non) (hSub (xFld 1 ⟨#[111, 119, 110, 101, 114, 115]⟩ (xVar 0)) (xOp gIx (xVar 3) (xC (.int 1)))))) (yIf (xTv (xOp gEq (xVar 4) (xC (.str ⟨#[116, 101, 108, 108]⟩)))) (yDrop (xLM gAppend (xFld 1 ⟨#[115, 97, 105, 100]⟩ (xVar 0)) (xCons (xTup (xCons (xVar 1) (xCons (xLM gPop (xOp gIx (xVar 2) (xC (.int 3))) (xNil)) (xNil)))) (xNil)))) (ySeq (yIf (xTv (xOp gEq (xFld 1 ⟨#[97, 115, 107, 101, 100]⟩ (xVar 0)) (xCB (f1 gLen) (xCons (xFld 1 ⟨#[105, 110, 112, 117, 116, 115]⟩ (xVar 0)) (xNil))))) (yRet (xC (.int (-7)))) (yNx)) (ySeq (yDrop (xLM gAppend (xOp gIx (xVar 2) (xC (.int 3))) (xCons (xOp gIx (xFld 1 ⟨#[105, 110, 112, 117, 116, 115]⟩ (xVar 0)) (xFld 1 ⟨#[97, 115, 107, 101, 100]⟩ (xVar 0))) (xNil)))) (yFldAug 1 ⟨#[97, 115, 107, 101, 100]⟩ gAddI (xVar 0) (xC (.int 1)))))))) (ySeq (yAugS gAddI (xVar 2) (xC (.int 1)) (xC (.int 1))) (yRet (xC .non))))
def m_Machine_shared : XF := xDef 4 5 y_Machine_shared
def y_wrap : XS := yRet (xOp gSubA (xOp gModA (xOp gAdd (xVar 0) (xC (.int 2147483648))) (xC (.int 4294967296))) (xC (.int 2147483648)))
def m_wrap : XF := xDef 1 1 y_wrap
def y_divided : XS := ySeq (yIf (xTv (xOp gEq (xVar 2) (xC (.int 0)))) (yRet (xC .non)) (yNx)) (ySeq (yAsg (xOp gDiv (xCB (f1 gAbs) (xCons (xVar 1) (xNil))) (xCB (f1 gAbs) (xCons (xVar 2) (xNil)))) (hName 3)) (ySeq (yAsg (xIf (xTv (xOp gEq (xOp gLtA (xVar 1) (xC (.int 0))) (xOp gLtA (xVar 2) (xC (.int 0))))) (xVar 3) (xUn gNeg (xVar 3))) (hName 3)) (yRet (xIf (xTv (xOp gEq (xVar 0) (xC (.str ⟨#[100, 105, 118]⟩)))) (xCall m_wrap [] (xCons (xVar 3) (xNil))) (xCall m_wrap [] (xCons (xOp gSubA (xVar 1) (xOp gMul (xVar 3) (xVar 2))) (xNil)))))))
def m_divided : XF := xDef 3 4 y_divided
def y_worked : XS := ySeq (yIf (xTv (xOp gEq (xVar 0) (xC (.str ⟨#[97, 100, 100]⟩)))) (yRet (xCall m_wrap [] (xCons (xOp gAdd (xVar 1) (xVar 2)) (xNil)))) (yNx)) (ySeq (yIf (xTv (xOp gEq (xVar 0) (xC (.str ⟨#[115, 117, 98]⟩)))) (yRet (xCall m_wrap [] (xCons (xOp gSubA (xVar 1) (xVar 2)) (xNil)))) (yNx)) (ySeq (yIf (xTv (xOp gEq (xVar 0) (xC (.str ⟨#[109, 117, 108]⟩)))) (yRet (xCall m_wrap [] (xCons (xOp gMul (xVar 1) (xVar 2)) (xNil)))) (yNx)) (ySeq (yIf (xTv (xOp (gIn false) (xVar 0) (xTup (xCons (xC (.str ⟨#[100, 105, 118]⟩)) (xCons (xC (.str ⟨#[114, 101, 109]⟩)) (xNil)))))) (yRet (xCall m_divided [] (xCons (xVar 0) (xCons (xVar 1) (xCons (xVar 2) (xNil)))))) (yNx)) (ySeq (yIf (xTv (xOp gEq (xVar 0) (xC (.str ⟨#[97, 110, 100]⟩)))) (yRet (xCall m_wrap [] (xCons (xOp gAnd (xOp gModA (xVar 1) (xC (.int 4294967296))) (xOp gModA (xVar 2) (xC (.int 4294967296)))) (xNil)))) (yNx)) (ySeq (yIf (xTv (xOp gEq (xVar 0) (xC (.str ⟨#[111, 114]⟩)))) (yRet (xCall m_wrap [] (xCons (xOp gOr (xOp gModA (xVar 1) (xC (.int 4294967296))) (xOp gModA (xVar 2) (xC (.int 4294967296)))) (xNil)))) (yNx)) (ySeq (yIf (xTv (xOp gEq (xVar 0) (xC (.str ⟨#[120, 111, 114]⟩)))) (yRet (xCall m_wrap [] (xCons (xOp gXor (xOp gModA (xVar 1) (xC (.int 4294967296))) (xOp gModA (xVar 2) (xC (.int 4294967296)))) (xNil)))) (yNx)) (yNo)))))))
def m_worked : XF := xDef 3 3 y_worked
def y_Machine_plain : XS := ySeq (yPar 3 4 (xCons (xOp gIx (xVar 2) (xC (.int 0))) (xCons (xOp gIx (xVar 1) (xC (.int 3))) (xNil)))) (ySeq (yIf (xTv (xOp (gIn false) (xVar 3) (xKt k_WORKS))) (ySeq (yAsg (xCall m_worked [] (xCons (xVar 3) (xCons (xOp gIx (xVar 4) (xUn gNeg (xC (.int 2)))) (xCons (xOp gIx (xVar 4) (xUn gNeg (xC (.int 1)))) (xNil))))) (hName 5)) (ySeq (yIf (xTv (xOp (gIsN false) (xVar 5) (xC .non))) (yRet (xC (.int (-3)))) (yNx)) (yAsg (xOp gAdd (xSl (xVar 4) (xPnone) (xPart (xUn gNeg (xC (.int 2))))) (xLst (xCons (xVar 5) (xNil)))) (hSub (xVar 1) (xC (.int 3)))))) (yIf (xTv (xOp gEq (xVar 3) (xC (.str ⟨#[105, 110, 116]⟩)))) (yDrop (xLM gAppend (xVar 4) (xCons (xOp gIx (xVar 2) (xC (.int 1))) (xNil)))) (yIf (xTv (xOp gEq (xVar 3) (xC (.str ⟨#[108, 111, 97, 100]⟩)))) (yDrop (xLM gAppend (xVar 4) (xCons (xOp gIx (xOp gIx (xVar 1) (xC (.int 2))) (xOp gIx (xVar 2) (xC (.int 1)))) (xNil)))) (yIf (xTv (xOp gEq (xVar 3) (xC (.str ⟨#[115, 116, 111, 114, 101]⟩)))) (yAsg (xLM gPop (xVar 4) (xNil)) (hSub (xOp gIx (xVar 1) (xC (.int 2))) (xOp gIx (xVar 2) (xC (.int 1))))) (yIf (xTv (xOp gEq (xVar 3) (xC (.str ⟨#[100, 117, 112]⟩)))) (yDrop (xLM gAppend (xVar 4) (xCons (xOp gIx (xVar 4) (xUn gNeg (xC (.int 1)))) (xNil)))) (yIf (xTv (xOp gEq (xVar 3) (xC (.str ⟨#[100, 114, 111, 112]⟩)))) (yDrop (xLM gPop (xVar 4) (xNil))) (yDrop (xLM gAppend (xVar 4) (xCons (xCall m_wrap [] (xCons (xUn gNeg (xLM gPop (xVar 4) (xNil))) (xNil))) (xNil)))))))))) (ySeq (yAugS gAddI (xVar 1) (xC (.int 1)) (xC (.int 1))) (yRet (xC .non))))
def m_Machine_plain : XF := xDef 3 6 y_Machine_plain
def y_Machine_done : XS := ySeq (yAsg (xOp gIx (xVar 3) (xC (.int 0))) (hName 4)) (ySeq (yIf (xTv (xOp (gIn false) (xVar 4) (xTup (xCons (xC (.str ⟨#[103, 111, 116, 111]⟩)) (xCons (xC (.str ⟨#[105, 102]⟩)) (xNil)))))) (yRet (xNo)) (yNx)) (ySeq (yIf (xTv (xOp (gIn false) (xVar 4) (xTup (xCons (xC (.str ⟨#[99, 97, 108, 108]⟩)) (xCons (xC (.str ⟨#[103, 105, 118, 101]⟩)) (xCons (xC (.str ⟨#[115, 112, 97, 119, 110]⟩)) (xCons (xC (.str ⟨#[106, 111, 105, 110]⟩)) (xNil)))))))) (yRet (xMeth 1 ⟨#[112, 97, 115, 115, 95, 111, 110]⟩ m_Machine_pass_on [] (xVar 0) (xCons (xVar 1) (xCons (xVar 2) (xCons (xVar 3) (xNil)))))) (yNx)) (ySeq (yIf (xTv (xOp (gIn false) (xVar 4) (xTup (xCons (xC (.str ⟨#[103, 101, 116]⟩)) (xCons (xC (.str ⟨#[112, 117, 116]⟩)) (xCons (xC (.str ⟨#[116, 114, 97, 100, 101]⟩)) (xCons (xC (.str ⟨#[102, 101, 116, 99, 104]⟩)) (xCons (xC (.str ⟨#[115, 101, 116]⟩)) (xNil))))))))) (yRet (xMeth 1 ⟨#[99, 101, 108, 108]⟩ m_Machine_cell [] (xVar 0) (xCons (xVar 2) (xCons (xVar 3) (xNil))))) (yNx)) (ySeq (yIf (xTv (xOp (gIn false) (xVar 4) (xTup (xCons (xC (.str ⟨#[108, 111, 99, 107]⟩)) (xCons (xC (.str ⟨#[102, 114, 101, 101]⟩)) (xCons (xC (.str ⟨#[97, 115, 107]⟩)) (xCons (xC (.str ⟨#[116, 101, 108, 108]⟩)) (xNil)))))))) (yRet (xMeth 1 ⟨#[115, 104, 97, 114, 101, 100]⟩ m_Machine_shared [] (xVar 0) (xCons (xVar 1) (xCons (xVar 2) (xCons (xVar 3) (xNil)))))) (yNx)) (yRet (xMeth 1 ⟨#[112, 108, 97, 105, 110]⟩ m_Machine_plain [] (xVar 0) (xCons (xVar 2) (xCons (xVar 3) (xNil)))))))))
def m_Machine_done : XF := xDef 4 5 y_Machine_done
def y_Machine_step : XS := ySeq (yIf (xOr (xNot (xTv (xCall m_is_whole [] (xCons (xVar 1) (xNil))))) (xTv (xOp (gIn true) (xVar 1) (xMeth 1 ⟨#[109, 97, 121, 95, 103, 111]⟩ m_Machine_may_go [] (xVar 0) (xNil))))) (yNo) (yNx)) (ySeq (yAsg (xOp gIx (xOp gIx (xOp gIx (xFld 1 ⟨#[116, 104, 114, 101, 97, 100, 115]⟩ (xVar 0)) (xVar 1)) (xC (.int 0))) (xUn gNeg (xC (.int 1)))) (hName 2)) (ySeq (yAsg (xTup (xCons (xOp gIx (xVar 2) (xC (.int 0))) (xCons (xOp gIx (xVar 2) (xC (.int 1))) (xNil)))) (hName 3)) (ySeq (yAsg (xMeth 1 ⟨#[110, 101, 120, 116, 95, 111, 110, 101]⟩ m_Machine_next_one [] (xVar 0) (xCons (xVar 1) (xNil))) (hName 4)) (ySeq (yFldAug 1 ⟨#[115, 116, 101, 112, 115]⟩ gAddI (xVar 0) (xC (.int 1))) (ySeq (yAsg (xIf (xOr (xTv (xOp gLtA (xCB (f1 gLen) (xCons (xOp gIx (xVar 2) (xC (.int 3))) (xNil))) (xCall m_needs [] (xCons (xFld 1 ⟨#[112, 114, 111, 103, 114, 97, 109]⟩ (xVar 0)) (xCons (xVar 4) (xNil)))))) (xTv (xOp gEq (xOp gIx (xVar 4) (xC (.int 0))) (xC (.str ⟨#[101, 110, 100]⟩))))) (xC (.int (-12))) (xMeth 1 ⟨#[100, 111, 110, 101]⟩ m_Machine_done [] (xVar 0) (xCons (xVar 1) (xCons (xVar 2) (xCons (xVar 4) (xNil)))))) (hName 5)) (yIf (xTv (xOp (gIsN true) (xVar 5) (xC .non))) (yFld 1 ⟨#[101, 110, 100]⟩ (xVar 0) (xOp gAdd (xTup (xCons (xC (.str ⟨#[102, 97, 117, 108, 116]⟩)) (xCons (xVar 5) (xCons (xVar 1) (xNil))))) (xVar 3))) (yIf (xNot (xTv (xCB (f1 gAny) (xCons (xLc (xSeq (xFld 1 ⟨#[116, 104, 114, 101, 97, 100, 115]⟩ (xVar 0))) (hName 6) (xYes) (xOp gGt (xCB (f1 gLen) (xCons (xOp gIx (xVar 6) (xC (.int 0))) (xNil))) (xC (.int 0))) [6]) (xNil))))) (yFld 1 ⟨#[101, 110, 100]⟩ (xVar 0) (xTup (xCons (xC (.str ⟨#[100, 111, 110, 101]⟩)) (xNil)))) (yIf (xTv (xOp gEq (xCB (f1 gLen) (xCons (xMeth 1 ⟨#[109, 97, 121, 95, 103, 111]⟩ m_Machine_may_go [] (xVar 0) (xNil)) (xNil))) (xC (.int 0)))) (yFld 1 ⟨#[101, 110, 100]⟩ (xVar 0) (xTup (xCons (xC (.str ⟨#[115, 116, 117, 99, 107]⟩)) (xNil)))) (yNx)))))))))
def m_Machine_step : XF := xDef 2 7 y_Machine_step
def y_event_of : XS := ySeq (yIf (xTv (xOp (gIn true) (xVar 1) (xMeth 1 ⟨#[109, 97, 121, 95, 103, 111]⟩ m_Machine_may_go [] (xVar 0) (xNil)))) (yNo) (yNx)) (ySeq (yAsg (xOp gIx (xOp gIx (xOp gIx (xFld 1 ⟨#[116, 104, 114, 101, 97, 100, 115]⟩ (xVar 0)) (xVar 1)) (xC (.int 0))) (xUn gNeg (xC (.int 1)))) (hName 3)) (ySeq (yPar 4 5 (xCons (xTup (xCons (xOp gIx (xVar 3) (xC (.int 0))) (xCons (xOp gIx (xVar 3) (xC (.int 1))) (xNil)))) (xCons (xCall m_touches_of [] (xCons (xVar 0) (xCons (xVar 1) (xNil)))) (xNil)))) (ySeq (yDrop (xMeth 1 ⟨#[115, 116, 101, 112]⟩ m_Machine_step [] (xVar 0) (xCons (xVar 1) (xNil)))) (ySeq (yIf (xAnd (xTv (xOp (gIsN true) (xFld 1 ⟨#[101, 110, 100]⟩ (xVar 0)) (xC .non))) (xTv (xOp gEq (xOp gIx (xFld 1 ⟨#[101, 110, 100]⟩ (xVar 0)) (xC (.int 0))) (xC (.str ⟨#[102, 97, 117, 108, 116]⟩))))) (yAsg (xOp gAdd (xTup (xCons (xTup (xCons (xTup (xCons (xC (.str ⟨#[97, 108, 108]⟩)) (xNil))) (xCons (xC (.str ⟨#[98, 111, 116, 104]⟩)) (xNil)))) (xNil))) (xCB (f1 gTuple) (xCons (xLc (xSeq (xVar 5)) (hName 6) (xTv (xOp (gIn false) (xOp gIx (xVar 6) (xC (.int 0))) (xKt2 [.str ⟨#[105, 110, 112, 117, 116, 115]⟩] [.str ⟨#[116, 104, 114, 101, 97, 100, 115]⟩]))) (xVar 6) [6]) (xNil)))) (hName 5)) (yNx)) (yRet (xOp gAdd (xOp gAdd (xTup (xCons (xVar 1) (xCons (xVar 2) (xNil)))) (xVar 4)) (xTup (xCons (xVar 5) (xNil)))))))))
def m_event_of : XF := xDef 3 7 y_event_of
def y_events : XS := ySeq (yDrop (xCall m_look_at_weaving [] (xCons (xVar 2) (xNil)))) (ySeq (yPar3 4 5 6 (xCons (xMake 1 m_Machine_init [] (xCons (xVar 0) (xCons (xVar 1) (xNil)))) (xCons (xNewK) (xCons (xLst (xNil)) (xNil))))) (ySeq (yFor (xSeq (xVar 2)) (hName 3) (ySeq (yDrop (xLM gAppend (xVar 6) (xCons (xCall m_event_of [] (xCons (xVar 4) (xCons (xVar 3) (xCons (xGet2 (xVar 5) (xVar 3) (xC (.int 0))) (xNil))))) (xNil)))) (yAsg (xOp gAdd (xGet2 (xVar 5) (xVar 3) (xC (.int 0))) (xC (.int 1))) (hSub (xVar 5) (xVar 3))))) (yRet (xCB (f1 gTuple) (xCons (xVar 6) (xNil))))))
def m_events : XF := xDef 3 7 y_events
def y_Follows_init : XS := ySeq (yFld 3 ⟨#[114, 111, 119, 115]⟩ (xVar 0) (xVar 1)) (ySeq (yFld 3 ⟨#[108, 111, 116, 115]⟩ (xVar 0) (xLst (xNil))) (yFld 3 ⟨#[115, 116, 97, 121, 115]⟩ (xVar 0) (xNewT)))
def m_Follows_init : XF := xDef 2 2 y_Follows_init
def y_Touched_init : XS := ySeq (yFld 2 ⟨#[108, 97, 115, 116]⟩ (xVar 0) (xNewT)) (yFld 2 ⟨#[115, 105, 110, 99, 101]⟩ (xVar 0) (xNewT))
def m_Touched_init : XF := xDef 1 1 y_Touched_init
def y_joined_by : XS := ySeq (yFor (xSeq (xOp gIx (xVar 0) (xC (.int 4)))) (hTup 2 (hCons (hName 1) (hCons (hName 2) (hNil)))) (yIf (xAnd (xTv (xOp gEq (xOp gIx (xVar 1) (xC (.int 0))) (xC (.str ⟨#[116, 104, 114, 101, 97, 100]⟩)))) (xTv (xOp gEq (xVar 2) (xC (.str ⟨#[114, 101, 97, 100]⟩))))) (yRet (xOp gIx (xVar 1) (xC (.int 1)))) (yNx))) (yRet (xC .non))
def m_joined_by : XF := xDef 1 3 y_joined_by
def y_spawned_by : XS := ySeq (yFor (xSeq (xOp gIx (xVar 0) (xC (.int 4)))) (hTup 2 (hCons (hName 1) (hCons (hName 2) (hNil)))) (yIf (xAnd (xTv (xOp gEq (xOp gIx (xVar 1) (xC (.int 0))) (xC (.str ⟨#[116, 104, 114, 101, 97, 100]⟩)))) (xAnd (xTv (xOp gEq (xVar 2) (xC (.str ⟨#[119, 114, 105, 116, 101]⟩)))) (xTv (xOp gNe (xOp gIx (xVar 1) (xC (.int 1))) (xOp gIx (xVar 0) (xC (.int 0))))))) (yRet (xOp gIx (xVar 1) (xC (.int 1)))) (yNx))) (yRet (xC .non))
def m_spawned_by : XF := xDef 1 3 y_spawned_by
def y_spawn_for : XS := ySeq (yAsg (xCall m_joined_by [] (xCons (xOp gIx (xVar 0) (xVar 1)) (xNil))) (hName 2)) (ySeq (yIf (xTv (xOp (gIsN false) (xVar 2) (xC .non))) (yRet (xC .non)) (yNx)) (yRet (xOp gIx (xOp gAdd (xLc (xRng1 (xCons (xVar 1) (xNil))) (hName 3) (xTv (xOp gEq (xCall m_spawned_by [] (xCons (xOp gIx (xVar 0) (xVar 3)) (xNil))) (xVar 2))) (xVar 3) [3]) (xLst (xCons (xC .non) (xNil)))) (xC (.int 0)))))
def m_spawn_for : XF := xDef 2 4 y_spawn_for
def y_line_before : XS := ySeq (yAsg (xOp gIx (xVar 0) (xVar 1)) (hName 2)) (ySeq (yAsg (xSl (xLc (xDown (xCons (xOp gSubA (xVar 1) (xC (.int 1))) (xCons (xUn gNeg (xC (.int 1))) (xCons (xUn gNeg (xC (.int 1))) (xNil))))) (hName 4) (xTv (xOp gEq (xOp gIx (xOp gIx (xVar 0) (xVar 4)) (xC (.int 0))) (xOp gIx (xVar 2) (xC (.int 0))))) (xVar 4) [4]) (xPnone) (xPart (xC (.int 1)))) (hName 3)) (ySeq (yIf (xTv (xOp gEq (xOp gIx (xVar 2) (xC (.int 1))) (xC (.int 0)))) (yDrop (xLM gExtend (xVar 3) (xCons (xLc (xRng1 (xCons (xVar 1) (xNil))) (hName 4) (xTv (xOp gEq (xCall m_spawned_by [] (xCons (xOp gIx (xVar 0) (xVar 4)) (xNil))) (xOp gIx (xVar 2) (xC (.int 0))))) (xVar 4) [4]) (xNil)))) (yNx)) (yRet (xVar 3))))
def m_line_before : XF := xDef 2 5 y_line_before
def y_own_before : XS := ySeq (yPar 3 4 (xCons (xOp gIx (xVar 0) (xVar 1)) (xCons (xCall m_line_before [] (xCons (xVar 0) (xCons (xVar 1) (xNil)))) (xNil)))) (ySeq (yAsg (xCall m_joined_by [] (xCons (xVar 3) (xNil))) (hName 2)) (ySeq (yIf (xTv (xOp (gIsN true) (xVar 2) (xC .non))) (yDrop (xLM gExtend (xVar 4) (xCons (xSl (xLc (xDown (xCons (xOp gSubA (xVar 1) (xC (.int 1))) (xCons (xUn gNeg (xC (.int 1))) (xCons (xUn gNeg (xC (.int 1))) (xNil))))) (hName 5) (xTv (xOp gEq (xOp gIx (xOp gIx (xVar 0) (xVar 5)) (xC (.int 0))) (xVar 2))) (xVar 5) [5]) (xPnone) (xPart (xC (.int 1)))) (xNil)))) (yNx)) (yRet (xVar 4))))
def m_own_before : XF := xDef 2 6 y_own_before
def y_Follows_closed : XS := ySeq (yAsg (xLc (xSeq (xOp gIx (xOp gIx (xFld 3 ⟨#[114, 111, 119, 115]⟩ (xVar 0)) (xVar 1)) (xC (.int 4)))) (hTup 2 (hCons (hName 7) (hCons (hName 8) (hNil)))) (xTv (xOp gEq (xOp gIx (xVar 7) (xC (.int 0))) (xC (.str ⟨#[108, 111, 99, 107]⟩)))) (xVar 7) [7, 8]) (hName 3)) (ySeq (yAsg (xC (.bl true)) (hName 4)) (ySeq (yWhile (xTv (xVar 4)) (ySeq (yAsg (xC (.bl false)) (hName 4)) (yFor (xSeq (xLc2 (xSeq (xVar 3)) (hName 7) (xYes) (xSeq (xGet2 (xFld 3 ⟨#[115, 116, 97, 121, 115]⟩ (xVar 0)) (xVar 7) (xLst (xNil)))) (hName 9) (xYes) (xVar 9) [7, 9] [9])) (hTup 2 (hCons (hName 5) (hCons (hName 6) (hNil)))) (yIf (xAnd (xTv (xOp (gIsN true) (xVar 6) (xC .non))) (xAnd (xTv (xOp gEq (xOp gAnd (xOp gShr (xVar 2) (xVar 5)) (xC (.int 1))) (xC (.int 1)))) (xTv (xOp gEq (xOp gAnd (xOp gShr (xVar 2) (xVar 6)) (xC (.int 1))) (xC (.int 0)))))) (ySeq (yAsg (xOp gOr (xOp gOr (xVar 2) (xOp gIx (xFld 3 ⟨#[108, 111, 116, 115]⟩ (xVar 0)) (xVar 6))) (xOp gShl (xC (.int 1)) (xVar 6))) (hName 2)) (yAsg (xC (.bl true)) (hName 4))) (yNx))))) (yRet (xVar 2))))
def m_Follows_closed : XF := xDef 3 10 y_Follows_closed
def y_Follows_begin : XS := ySeq (yAsg (xC (.int 0)) (hName 3)) (ySeq (yFor (xSeq (xIf (xTv (xVar 2)) (xCall m_line_before [] (xCons (xFld 3 ⟨#[114, 111, 119, 115]⟩ (xVar 0)) (xCons (xVar 1) (xNil)))) (xCall m_own_before [] (xCons (xFld 3 ⟨#[114, 111, 119, 115]⟩ (xVar 0)) (xCons (xVar 1) (xNil)))))) (hName 4) (yAsg (xOp gOr (xOp gOr (xVar 3) (xOp gIx (xFld 3 ⟨#[108, 111, 116, 115]⟩ (xVar 0)) (xVar 4))) (xOp gShl (xC (.int 1)) (xVar 4))) (hName 3))) (yRet (xMeth 3 ⟨#[99, 108, 111, 115, 101, 100]⟩ m_Follows_closed [] (xVar 0) (xCons (xVar 1) (xCons (xVar 3) (xNil))))))
def m_Follows_begin : XF := xDef 3 5 y_Follows_begin
def y_name_of : XS := yRet (xSl (xVar 0) (xPnone) (xPart (xC (.int 2))))
def m_name_of : XF := xDef 1 1 y_name_of
def y_Touched_met : XS := ySeq (yAsg (xNewK) (hName 2)) (ySeq (yFor (xSeq (xOp gIx (xVar 1) (xC (.int 4)))) (hTup 2 (hCons (hName 3) (hCons (hName 4) (hNil)))) (yIf (xTv (xOp gNe (xOp gIx (xVar 3) (xC (.int 0))) (xC (.str ⟨#[116, 104, 114, 101, 97, 100]⟩)))) (ySeq (yIf (xTv (xOp (gIn false) (xVar 3) (xFld 2 ⟨#[108, 97, 115, 116]⟩ (xVar 0)))) (yAsg (xC (.bl true)) (hSub (xVar 2) (xOp gIx (xFld 2 ⟨#[108, 97, 115, 116]⟩ (xVar 0)) (xVar 3)))) (yNx)) (yIf (xTv (xOp gNe (xVar 4) (xC (.str ⟨#[114, 101, 97, 100]⟩)))) (yDrop (xUpd (xVar 2) (xDc (xSeq (xGet2 (xFld 2 ⟨#[115, 105, 110, 99, 101]⟩ (xVar 0)) (xVar 3) (xLst (xNil)))) (hName 5) (xYes) (xVar 5) (xC (.bl true)) [5]))) (yNx))) (yNx))) (yRet (xSrtD (xVar 2))))
def m_Touched_met : XF := xDef 2 6 y_Touched_met
def y_Follows_joined : XS := yRet (xMeth 3 ⟨#[99, 108, 111, 115, 101, 100]⟩ m_Follows_closed [] (xVar 0) (xCons (xVar 1) (xCons (xOp gOr (xOp gOr (xVar 2) (xOp gIx (xFld 3 ⟨#[108, 111, 116, 115]⟩ (xVar 0)) (xVar 3))) (xOp gShl (xC (.int 1)) (xVar 3))) (xNil))))
def m_Follows_joined : XF := xDef 4 4 y_Follows_joined
def y_is_fault : XS := yRet (xOp (gIn false) (xTup (xCons (xTup (xCons (xC (.str ⟨#[97, 108, 108]⟩)) (xNil))) (xCons (xC (.str ⟨#[98, 111, 116, 104]⟩)) (xNil)))) (xOp gIx (xVar 0) (xC (.int 4))))
def m_is_fault : XF := xDef 1 1 y_is_fault
def y_Follows_take : XS := ySeq (yDrop (xLM gAppend (xFld 3 ⟨#[108, 111, 116, 115]⟩ (xVar 0)) (xCons (xIf (xTv (xCall m_is_fault [] (xCons (xOp gIx (xFld 3 ⟨#[114, 111, 119, 115]⟩ (xVar 0)) (xVar 1)) (xNil)))) (xOp gSubA (xOp gShl (xC (.int 1)) (xCB (f1 gLen) (xCons (xFld 3 ⟨#[108, 111, 116, 115]⟩ (xVar 0)) (xNil)))) (xC (.int 1))) (xVar 2)) (xNil)))) (yFor (xSeq (xOp gIx (xOp gIx (xFld 3 ⟨#[114, 111, 119, 115]⟩ (xVar 0)) (xVar 1)) (xC (.int 4)))) (hTup 2 (hCons (hName 3) (hCons (hName 4) (hNil)))) (yIf (xTv (xOp gEq (xOp gIx (xVar 3) (xC (.int 0))) (xC (.str ⟨#[108, 111, 99, 107]⟩)))) (ySeq (yAsg (xSetd (xFld 3 ⟨#[115, 116, 97, 121, 115]⟩ (xVar 0)) (xVar 3) (xLst (xNil))) (hName 5)) (yIf (xAnd (xTv (xOp gGt (xCB (f1 gLen) (xCons (xVar 5) (xNil))) (xC (.int 0)))) (xTv (xOp (gIsN false) (xOp gIx (xOp gIx (xVar 5) (xUn gNeg (xC (.int 1)))) (xC (.int 1))) (xC .non)))) (yAsg (xTup (xCons (xOp gIx (xOp gIx (xVar 5) (xUn gNeg (xC (.int 1)))) (xC (.int 0))) (xCons (xVar 1) (xNil)))) (hSub (xVar 5) (xUn gNeg (xC (.int 1))))) (yDrop (xLM gAppend (xVar 5) (xCons (xTup (xCons (xVar 1) (xCons (xC .non) (xNil)))) (xNil)))))) (yNx)))
def m_Follows_take : XF := xDef 3 6 y_Follows_take
def y_Touched_take : XS := yFor (xSeq (xOp gIx (xVar 2) (xC (.int 4)))) (hTup 2 (hCons (hName 3) (hCons (hName 4) (hNil)))) (yIf (xTv (xOp gEq (xVar 4) (xC (.str ⟨#[114, 101, 97, 100]⟩)))) (yDrop (xLM gAppend (xSetd (xFld 2 ⟨#[115, 105, 110, 99, 101]⟩ (xVar 0)) (xVar 3) (xLst (xNil))) (xCons (xVar 1) (xNil)))) (ySeq (yAsg (xVar 1) (hSub (xFld 2 ⟨#[108, 97, 115, 116]⟩ (xVar 0)) (xVar 3))) (yAsg (xLst (xNil)) (hSub (xFld 2 ⟨#[115, 105, 110, 99, 101]⟩ (xVar 0)) (xVar 3)))))
def m_Touched_take : XF := xDef 3 5 y_Touched_take
def y_counts_of : XS := ySeq (yAsg (xOp gAdd (xCB (f1 gMax) (xCons (xOp gAdd (xLc (xSeq (xVar 0)) (hName 3) (xYes) (xOp gIx (xVar 3) (xC (.int 0))) [3]) (xLst (xCons (xUn gNeg (xC (.int 1))) (xNil)))) (xNil))) (xC (.int 1))) (hName 1)) (yRet (xCB (f1 gTuple) (xCons (xLc (xRng1 (xCons (xVar 1) (xNil))) (hName 2) (xYes) (xCB (f1 gLen) (xCons (xLc (xSeq (xVar 0)) (hName 3) (xTv (xOp gEq (xOp gIx (xVar 3) (xC (.int 0))) (xVar 2))) (xVar 3) [3]) (xNil))) [2]) (xNil))))
def m_counts_of : XF := xDef 1 4 y_counts_of
def y_least_log : XS := ySeq (yAsg (xCall m_events [] (xCons (xVar 0) (xCons (xVar 1) (xCons (xVar 2) (xNil))))) (hName 3)) (ySeq (yPar3 4 5 6 (xCons (xMake 3 m_Follows_init [] (xCons (xVar 3) (xNil))) (xCons (xMake 2 m_Touched_init [] (xNil)) (xCons (xLst (xNil)) (xNil))))) (ySeq (yFor (xEnA (xCons (xVar 3) (xNil))) (hTup 2 (hCons (hName 7) (hCons (hName 8) (hNil)))) (ySeq (yPar 10 11 (xCons (xCall m_spawn_for [] (xCons (xVar 3) (xCons (xVar 7) (xNil)))) (xCons (xMeth 3 ⟨#[98, 101, 103, 105, 110]⟩ m_Follows_begin [.bl false] (xVar 4) (xCons (xVar 7) (xNil))) (xNil)))) (ySeq (yIf (xAnd (xTv (xOp (gIsN true) (xVar 10) (xC .non))) (xTv (xOp gEq (xOp gAnd (xOp gShr (xMeth 3 ⟨#[98, 101, 103, 105, 110]⟩ m_Follows_begin [] (xVar 4) (xCons (xVar 7) (xCons (xC (.bl true)) (xNil)))) (xVar 10)) (xC (.int 1))) (xC (.int 0))))) (yDrop (xLM gAppend (xVar 6) (xCons (xTup (xCons (xCall m_name_of [] (xCons (xOp gIx (xVar 3) (xVar 10)) (xNil))) (xCons (xCall m_name_of [] (xCons (xVar 8) (xNil))) (xNil)))) (xNil)))) (yNx)) (ySeq (yFor (xSeq (xMeth 2 ⟨#[109, 101, 116]⟩ m_Touched_met [] (xVar 5) (xCons (xVar 8) (xNil)))) (hName 9) (yIf (xTv (xOp gEq (xOp gAnd (xOp gShr (xVar 11) (xVar 9)) (xC (.int 1))) (xC (.int 0)))) (ySeq (yDrop (xLM gAppend (xVar 6) (xCons (xTup (xCons (xCall m_name_of [] (xCons (xOp gIx (xVar 3) (xVar 9)) (xNil))) (xCons (xCall m_name_of [] (xCons (xVar 8) (xNil))) (xNil)))) (xNil)))) (yAsg (xMeth 3 ⟨#[106, 111, 105, 110, 101, 100]⟩ m_Follows_joined [] (xVar 4) (xCons (xVar 7) (xCons (xVar 11) (xCons (xVar 9) (xNil))))) (hName 11))) (yNx))) (ySeq (yDrop (xMeth 3 ⟨#[116, 97, 107, 101]⟩ m_Follows_take [] (xVar 4) (xCons (xVar 7) (xCons (xVar 11) (xNil))))) (yDrop (xMeth 2 ⟨#[116, 97, 107, 101]⟩ m_Touched_take [] (xVar 5) (xCons (xVar 7) (xCons (xVar 8) (xNil)))))))))) (yRet (xTup (xCons (xCall m_counts_of [] (xCons (xVar 3) (xNil))) (xCons (xCB (f1 gTuple) (xCons (xCB (f1 gSrt4) (xCons (xVar 6) (xNil))) (xNil))) (xNil)))))))
def m_least_log : XF := xDef 3 12 y_least_log
def y_names_in : XS := ySeq (yPar 1 2 (xCons (xNewK) (xCons (xNewT) (xNil)))) (ySeq (yFor (xEnA (xCons (xVar 0) (xNil))) (hTup 2 (hCons (hName 3) (hCons (hName 4) (hNil)))) (ySeq (yAsg (xVar 3) (hSub (xVar 2) (xTup (xCons (xVar 4) (xCons (xGet2 (xVar 1) (xVar 4) (xC (.int 0))) (xNil)))))) (yAsg (xOp gAdd (xGet2 (xVar 1) (xVar 4) (xC (.int 0))) (xC (.int 1))) (hSub (xVar 1) (xVar 4))))) (yRet (xVar 2)))
def m_names_in : XF := xDef 1 5 y_names_in
def y_turned : XS := ySeq (yAsg (xCall m_events [] (xCons (xVar 0) (xCons (xVar 1) (xCons (xVar 2) (xNil))))) (hName 4)) (ySeq (yAsg (xCall m_least_log [] (xCons (xVar 0) (xCons (xVar 1) (xCons (xVar 2) (xNil))))) (hName 5)) (ySeq (yIf (xTv (xOp (gIn true) (xVar 3) (xOp gIx (xVar 5) (xC (.int 1))))) (yNo) (yNx)) (ySeq (yAsg (xNewT) (hName 6)) (ySeq (yFor (xSeq (xOp gIx (xVar 5) (xC (.int 1)))) (hTup 2 (hCons (hName 8) (hCons (hName 9) (hNil)))) (yIf (xTv (xOp gNe (xTup (xCons (xVar 8) (xCons (xVar 9) (xNil)))) (xVar 3))) (yDrop (xLM gAppend (xSetd (xVar 6) (xVar 9) (xLst (xNil))) (xCons (xVar 8) (xNil)))) (yNx))) (ySeq (yPar 10 11 (xCons (xCall m_names_in [] (xCons (xVar 2) (xNil))) (xCons (xMake 3 m_Follows_init [] (xCons (xVar 4) (xNil))) (xNil)))) (ySeq (yAsg (xTup (xCons (xOp gIx (xVar 10) (xOp gIx (xVar 3) (xC (.int 1)))) (xCons (xC (.int 0)) (xNil)))) (hTup 2 (hCons (hName 12) (hCons (hName 13) (hNil))))) (ySeq (yFor (xRng1 (xCons (xOp gAdd (xVar 12) (xC (.int 1))) (xNil))) (hName 7) (ySeq (yAsg (xMeth 3 ⟨#[98, 101, 103, 105, 110]⟩ m_Follows_begin [] (xVar 11) (xCons (xVar 7) (xCons (xAndV (xOp gEq (xVar 7) (xVar 12)) (xOp gEq (xOp gIx (xVar 10) (xOp gIx (xVar 3) (xC (.int 0)))) (xCall m_spawn_for [] (xCons (xVar 4) (xCons (xVar 7) (xNil)))))) (xNil)))) (hName 13)) (ySeq (yFor (xSeq (xGet2 (xVar 6) (xCall m_name_of [] (xCons (xOp gIx (xVar 4) (xVar 7)) (xNil))) (xLst (xNil)))) (hName 8) (yAsg (xMeth 3 ⟨#[106, 111, 105, 110, 101, 100]⟩ m_Follows_joined [] (xVar 11) (xCons (xVar 7) (xCons (xVar 13) (xCons (xOp gIx (xVar 10) (xVar 8)) (xNil))))) (hName 13))) (yDrop (xMeth 3 ⟨#[116, 97, 107, 101]⟩ m_Follows_take [] (xVar 11) (xCons (xVar 7) (xCons (xVar 13) (xNil)))))))) (yRet (xOp gAdd (xCB (f1 gTuple) (xCons (xLc (xRng1 (xCons (xVar 12) (xNil))) (hName 14) (xTv (xOp gEq (xOp gAnd (xOp gShr (xVar 13) (xVar 14)) (xC (.int 1))) (xC (.int 1)))) (xOp gIx (xVar 2) (xVar 14)) [14]) (xNil))) (xTup (xCons (xOp gIx (xVar 2) (xVar 12)) (xNil))))))))))))
def m_turned : XF := xDef 4 15 y_turned
def y_is_event_name : XS := ySeq (yIf (xOr (xNot (xTv (xIsi 5 (xVar 1)))) (xOr (xTv (xOp gNe (xCB (f1 gLen) (xCons (xVar 1) (xNil))) (xC (.int 2)))) (xNot (xTv (xCB (f1 gAll) (xCons (xLc (xSeq (xVar 1)) (hName 2) (xYes) (xCall m_is_whole [] (xCons (xVar 2) (xNil))) [2]) (xNil))))))) (yRet (xC (.bl false))) (yNx)) (yRet (xAndV (xChain gLeA gLtA (xC (.int 0)) (xOp gIx (xVar 1) (xC (.int 0))) (xCB (f1 gLen) (xCons (xVar 0) (xNil)))) (xChain gLeA gLtA (xC (.int 0)) (xOp gIx (xVar 1) (xC (.int 1))) (xOp gIx (xVar 0) (xOp gIx (xVar 1) (xC (.int 0)))))))
def m_is_event_name : XF := xDef 2 3 y_is_event_name
def y_is_log : XS := ySeq (yIf (xOr (xNot (xTv (xIsi 5 (xVar 0)))) (xOr (xTv (xOp gNe (xCB (f1 gLen) (xCons (xVar 0) (xNil))) (xC (.int 2)))) (xNot (xTv (xCB (f1 gAll) (xCons (xLc (xSeq (xVar 0)) (hName 5) (xYes) (xIsi 5 (xVar 5)) [5]) (xNil))))))) (yRet (xC (.bl false))) (yNx)) (ySeq (yAsg (xVar 0) (hTup 2 (hCons (hName 1) (hCons (hName 2) (hNil))))) (ySeq (yIf (xOr (xTv (xOp gGt (xCB (f1 gLen) (xCons (xVar 1) (xNil))) (xC (.int 8)))) (xNot (xTv (xCB (f1 gAll) (xCons (xLc (xSeq (xVar 1)) (hName 4) (xYes) (xAndV (xCall m_is_whole [] (xCons (xVar 4) (xNil))) (xChain gLeA gLeA (xC (.int 0)) (xVar 4) (xC (.int 3000)))) [4]) (xNil)))))) (yRet (xC (.bl false))) (yNx)) (ySeq (yIf (xNot (xTv (xCB (f1 gAll) (xCons (xLc (xSeq (xVar 2)) (hName 3) (xYes) (xAndV (xIsi 5 (xVar 3)) (xOp gEq (xCB (f1 gLen) (xCons (xVar 3) (xNil))) (xC (.int 2)))) [3]) (xNil))))) (yRet (xC (.bl false))) (yNx)) (ySeq (yIf (xNot (xTv (xCB (f1 gAll) (xCons (xLc2 (xSeq (xVar 2)) (hName 3) (xYes) (xSeq (xVar 3)) (hName 4) (xYes) (xCall m_is_event_name [] (xCons (xVar 1) (xCons (xVar 4) (xNil)))) [3, 4] [4]) (xNil))))) (yRet (xC (.bl false))) (yNx)) (yRet (xAndV (xOp gEq (xCB (f1 gList) (xCons (xVar 2) (xNil))) (xSrtK (xVar 2))) (xCB (f1 gAll) (xCons (xLc (xSeq (xVar 2)) (hTup 2 (hCons (hName 4) (hCons (hName 6) (hNil)))) (xYes) (xOp gNe (xOp gIx (xVar 4) (xC (.int 0))) (xOp gIx (xVar 6) (xC (.int 0)))) [4, 6]) (xNil)))))))))
def m_is_log : XF := xDef 1 7 y_is_log
def y_look_at_log : XS := yIf (xNot (xTv (xCall m_is_log [] (xCons (xVar 0) (xNil))))) (yNo) (yNx)
def m_look_at_log : XF := xDef 1 1 y_look_at_log
def y_fits : XS := ySeq (yIf (xNot (xTv (xCall m_is_weaving [] (xCons (xVar 2) (xNil))))) (yRet (xC (.bl false))) (yNx)) (ySeq (yAsg (xMake 1 m_Machine_init [] (xCons (xVar 0) (xCons (xVar 1) (xNil)))) (hName 3)) (ySeq (yFor (xSeq (xVar 2)) (hName 4) (ySeq (yIf (xTv (xOp (gIn true) (xVar 4) (xMeth 1 ⟨#[109, 97, 121, 95, 103, 111]⟩ m_Machine_may_go [] (xVar 3) (xNil)))) (yRet (xC (.bl false))) (yNx)) (yDrop (xMeth 1 ⟨#[115, 116, 101, 112]⟩ m_Machine_step [] (xVar 3) (xCons (xVar 4) (xNil)))))) (yRet (xC (.bl true)))))
def m_fits : XF := xDef 3 5 y_fits
def y_turned_right : XS := ySeq (yDrop (xCall m_look_at_log [] (xCons (xVar 2) (xNil)))) (ySeq (yIf (xOr (xTv (xOp (gIn true) (xVar 3) (xOp gIx (xVar 2) (xC (.int 1))))) (xOr (xNot (xTv (xCall m_is_weaving [] (xCons (xVar 4) (xNil))))) (xNot (xTv (xCall m_fits [] (xCons (xVar 0) (xCons (xVar 1) (xCons (xVar 4) (xNil))))))))) (yRet (xC (.bl false))) (yNx)) (ySeq (yAsg (xCall m_names_in [] (xCons (xVar 4) (xNil))) (hName 5)) (ySeq (yIf (xOr (xTv (xOp (gIn true) (xOp gIx (xVar 3) (xC (.int 1))) (xVar 5))) (xAnd (xTv (xOp (gIn false) (xOp gIx (xVar 3) (xC (.int 0))) (xVar 5))) (xTv (xOp gLtA (xOp gIx (xVar 5) (xOp gIx (xVar 3) (xC (.int 0)))) (xOp gIx (xVar 5) (xOp gIx (xVar 3) (xC (.int 1)))))))) (yRet (xC (.bl false))) (yNx)) (ySeq (yAsg (xLc (xSeq (xOp gIx (xVar 2) (xC (.int 1)))) (hName 7) (xTv (xOp gNe (xVar 7) (xVar 3))) (xVar 7) [7]) (hName 6)) (yRet (xCB (f1 gAll) (xCons (xLc (xSeq (xVar 6)) (hTup 2 (hCons (hName 8) (hCons (hName 9) (hNil)))) (xYes) (xOrV (xOp (gIn true) (xVar 9) (xVar 5)) (xAndV (xOp (gIn false) (xVar 8) (xVar 5)) (xOp gLtA (xOp gIx (xVar 5) (xVar 8)) (xOp gIx (xVar 5) (xVar 9))))) [8, 9]) (xNil))))))))
def m_turned_right : XF := xDef 5 10 y_turned_right
def y_picture : XS := ySeq (yAsg (xLst (xNil)) (hName 1)) (ySeq (yFor (xSeq (xFld 1 ⟨#[116, 104, 114, 101, 97, 100, 115]⟩ (xVar 0))) (hTup 2 (hCons (hName 2) (hCons (hName 3) (hNil)))) (ySeq (yAsg (xCB (f1 gTuple) (xCons (xLc (xSeq (xVar 2)) (hTup 4 (hCons (hName 5) (hCons (hName 6) (hCons (hName 7) (hCons (hName 8) (hNil)))))) (xYes) (xTup (xCons (xVar 5) (xCons (xVar 6) (xCons (xCB (f1 gTuple) (xCons (xVar 7) (xNil))) (xCons (xCB (f1 gTuple) (xCons (xVar 8) (xNil))) (xNil)))))) [5, 6, 7, 8]) (xNil))) (hName 4)) (yDrop (xLM gAppend (xVar 1) (xCons (xTup (xCons (xVar 4) (xCons (xVar 3) (xNil)))) (xNil)))))) (yRet (xTup (xCons (xCB (f1 gTuple) (xCons (xVar 1) (xNil))) (xCons (xCB (f1 gTuple) (xCons (xFld 1 ⟨#[99, 101, 108, 108, 115]⟩ (xVar 0)) (xNil))) (xCons (xCB (f1 gTuple) (xCons (xFld 1 ⟨#[111, 119, 110, 101, 114, 115]⟩ (xVar 0)) (xNil))) (xCons (xFld 1 ⟨#[97, 115, 107, 101, 100]⟩ (xVar 0)) (xCons (xCB (f1 gTuple) (xCons (xFld 1 ⟨#[115, 97, 105, 100]⟩ (xVar 0)) (xNil))) (xCons (xFld 1 ⟨#[115, 116, 101, 112, 115]⟩ (xVar 0)) (xCons (xFld 1 ⟨#[101, 110, 100]⟩ (xVar 0)) (xNil)))))))))))
def m_picture : XF := xDef 1 9 y_picture
def y_run : XS := ySeq (yDrop (xCall m_look_at_weaving [] (xCons (xVar 2) (xNil)))) (ySeq (yAsg (xMake 1 m_Machine_init [] (xCons (xVar 0) (xCons (xVar 1) (xNil)))) (hName 3)) (ySeq (yFor (xSeq (xVar 2)) (hName 4) (yDrop (xMeth 1 ⟨#[115, 116, 101, 112]⟩ m_Machine_step [] (xVar 3) (xCons (xVar 4) (xNil))))) (yRet (xVar 3))))
def m_run : XF := xDef 3 5 y_run
def y_may_do : XS := ySeq (yAsg (xGet2 (xVar 2) (xVar 3) (xC (.int 0))) (hName 5)) (ySeq (yIf (xOr (xTv (xOp gGeA (xVar 3) (xCB (f1 gLen) (xCons (xOp gIx (xVar 0) (xC (.int 0))) (xNil))))) (xTv (xOp gGeA (xVar 5) (xOp gIx (xOp gIx (xVar 0) (xC (.int 0))) (xVar 3))))) (yRet (xC (.bl false))) (yNx)) (ySeq (yIf (xAnd (xTv (xOp gEq (xVar 3) (xVar 4))) (xAnd (xTv (xOp gEq (xVar 5) (xOp gSubA (xOp gIx (xOp gIx (xVar 0) (xC (.int 0))) (xVar 3)) (xC (.int 1))))) (xTv (xOp gLtA (xSumV (xVar 2)) (xOp gSubA (xCB (f1 gSumA) (xCons (xOp gIx (xVar 0) (xC (.int 0))) (xNil))) (xC (.int 1))))))) (yRet (xC (.bl false))) (yNx)) (yRet (xCB (f1 gAll) (xCons (xLc (xSeq (xGet2 (xVar 1) (xTup (xCons (xVar 3) (xCons (xVar 5) (xNil)))) (xLst (xNil)))) (hName 6) (xYes) (xOp gGt (xGet2 (xVar 2) (xOp gIx (xVar 6) (xC (.int 0))) (xC (.int 0))) (xOp gIx (xVar 6) (xC (.int 1)))) [6]) (xNil))))))
def m_may_do : XF := xDef 5 7 y_may_do
def y_faults_at_last : XS := ySeq (yAsg (xTup (xCons (xMake 1 m_Machine_init [] (xCons (xVar 0) (xCons (xVar 1) (xNil)))) (xCons (xNewK) (xNil)))) (hTup 2 (hCons (hName 6) (hCons (hName 7) (hNil))))) (ySeq (yAsg (xNewT) (hName 4)) (ySeq (yFor (xSeq (xOp gIx (xVar 2) (xC (.int 1)))) (hTup 2 (hCons (hName 8) (hCons (hName 9) (hNil)))) (yDrop (xLM gAppend (xSetd (xVar 4) (xVar 9) (xLst (xNil))) (xCons (xVar 8) (xNil))))) (ySeq (yFor (xRng1 (xCons (xCB (f1 gSumA) (xCons (xOp gIx (xVar 2) (xC (.int 0))) (xNil))) (xNil))) (hName 5) (ySeq (yAsg (xLc (xSeq (xMeth 1 ⟨#[109, 97, 121, 95, 103, 111]⟩ m_Machine_may_go [] (xVar 6) (xNil))) (hName 8) (xTv (xCall m_may_do [] (xCons (xVar 2) (xCons (xVar 4) (xCons (xVar 7) (xCons (xVar 8) (xCons (xVar 3) (xNil)))))))) (xVar 8) [8]) (hName 10)) (ySeq (yIf (xTv (xOp gEq (xCB (f1 gLen) (xCons (xVar 10) (xNil))) (xC (.int 0)))) (yRet (xC (.bl false))) (yNx)) (ySeq (yDrop (xMeth 1 ⟨#[115, 116, 101, 112]⟩ m_Machine_step [] (xVar 6) (xCons (xOp gIx (xVar 10) (xC (.int 0))) (xNil)))) (yAsg (xOp gAdd (xGet2 (xVar 7) (xOp gIx (xVar 10) (xC (.int 0))) (xC (.int 0))) (xC (.int 1))) (hSub (xVar 7) (xOp gIx (xVar 10) (xC (.int 0))))))))) (yRet (xAndV (xOp (gIsN true) (xFld 1 ⟨#[101, 110, 100]⟩ (xVar 6)) (xC .non)) (xAndV (xOp gEq (xOp gIx (xFld 1 ⟨#[101, 110, 100]⟩ (xVar 6)) (xC (.int 0))) (xC (.str ⟨#[102, 97, 117, 108, 116]⟩))) (xOp gEq (xOp gIx (xFld 1 ⟨#[101, 110, 100]⟩ (xVar 6)) (xC (.int 2))) (xVar 3))))))))
def m_faults_at_last : XF := xDef 4 11 y_faults_at_last
def y_last_of : XS := ySeq (yFor (xRng1 (xCons (xCB (f1 gLen) (xCons (xOp gIx (xVar 2) (xC (.int 0))) (xNil))) (xNil))) (hName 3) (yIf (xTv (xCall m_faults_at_last [] (xCons (xVar 0) (xCons (xVar 1) (xCons (xVar 2) (xCons (xVar 3) (xNil))))))) (yRet (xVar 3)) (yNx))) (yRet (xC .non))
def m_last_of : XF := xDef 3 4 y_last_of
def y_woven : XS := ySeq (yDrop (xCall m_look_at_log [] (xCons (xVar 2) (xNil)))) (ySeq (yIf (xOr (xNot (xTv (xIsi 5 (xVar 3)))) (xNot (xTv (xCB (f1 gAll) (xCons (xLc (xSeq (xVar 3)) (hName 9) (xYes) (xAndV (xCall m_is_whole [] (xCons (xVar 9) (xNil))) (xOp gGeA (xVar 9) (xC (.int 0)))) [9]) (xNil)))))) (yNo) (yNx)) (ySeq (yAsg (xTup (xCons (xMake 1 m_Machine_init [] (xCons (xVar 0) (xCons (xVar 1) (xNil)))) (xCons (xNewK) (xCons (xLst (xNil)) (xNil))))) (hTup 3 (hCons (hName 6) (hCons (hName 7) (hCons (hName 8) (hNil)))))) (ySeq (yAsg (xNewT) (hName 4)) (ySeq (yFor (xSeq (xOp gIx (xVar 2) (xC (.int 1)))) (hTup 2 (hCons (hName 9) (hCons (hName 10) (hNil)))) (yDrop (xLM gAppend (xSetd (xVar 4) (xVar 10) (xLst (xNil))) (xCons (xVar 9) (xNil))))) (ySeq (yAsg (xCall m_last_of [] (xCons (xVar 0) (xCons (xVar 1) (xCons (xVar 2) (xNil))))) (hName 5)) (ySeq (yWhile (xTv (xOp gLtA (xCB (f1 gLen) (xCons (xVar 8) (xNil))) (xCB (f1 gSumA) (xCons (xOp gIx (xVar 2) (xC (.int 0))) (xNil))))) (ySeq (yAsg (xLc (xSeq (xMeth 1 ⟨#[109, 97, 121, 95, 103, 111]⟩ m_Machine_may_go [] (xVar 6) (xNil))) (hName 12) (xTv (xCall m_may_do [] (xCons (xVar 2) (xCons (xVar 4) (xCons (xVar 7) (xCons (xVar 12) (xCons (xVar 5) (xNil)))))))) (xVar 12) [12]) (hName 11)) (ySeq (yIf (xTv (xOp gEq (xCB (f1 gLen) (xCons (xVar 11) (xNil))) (xC (.int 0)))) (yNo) (yNx)) (ySeq (yAsg (xIf (xTv (xOp gLtA (xCB (f1 gLen) (xCons (xVar 8) (xNil))) (xCB (f1 gLen) (xCons (xVar 3) (xNil))))) (xOp gIx (xVar 11) (xOp gModA (xOp gIx (xVar 3) (xCB (f1 gLen) (xCons (xVar 8) (xNil)))) (xCB (f1 gLen) (xCons (xVar 11) (xNil))))) (xOp gIx (xVar 11) (xC (.int 0)))) (hName 12)) (ySeq (yDrop (xMeth 1 ⟨#[115, 116, 101, 112]⟩ m_Machine_step [] (xVar 6) (xCons (xVar 12) (xNil)))) (ySeq (yAsg (xOp gAdd (xGet2 (xVar 7) (xVar 12) (xC (.int 0))) (xC (.int 1))) (hSub (xVar 7) (xVar 12))) (yDrop (xLM gAppend (xVar 8) (xCons (xVar 12) (xNil)))))))))) (yRet (xCB (f1 gTuple) (xCons (xVar 8) (xNil))))))))))
def m_woven : XF := xDef 4 13 y_woven
def y_default_thread : XS := ySeq (yAsg (xMeth 1 ⟨#[109, 97, 121, 95, 103, 111]⟩ m_Machine_may_go [] (xVar 0) (xNil)) (hName 2)) (ySeq (yIf (xTv (xOp gEq (xCB (f1 gLen) (xCons (xVar 2) (xNil))) (xC (.int 0)))) (yRet (xC .non)) (yNx)) (ySeq (yIf (xTv (xOp (gIn false) (xVar 1) (xVar 2))) (yRet (xVar 1)) (yNx)) (ySeq (yAsg (xLc (xSeq (xVar 2)) (hName 4) (xAnd (xTv (xOp (gIsN true) (xVar 1) (xC .non))) (xTv (xOp gGt (xVar 4) (xVar 1)))) (xVar 4) [4]) (hName 3)) (yRet (xIf (xTv (xOp gGt (xCB (f1 gLen) (xCons (xVar 3) (xNil))) (xC (.int 0)))) (xOp gIx (xVar 3) (xC (.int 0))) (xOp gIx (xVar 2) (xC (.int 0))))))))
def m_default_thread : XF := xDef 2 5 y_default_thread
def y_by_default : XS := ySeq (yIf (xOr (xNot (xTv (xCall m_is_whole [] (xCons (xVar 2) (xNil))))) (xNot (xTv (xChain gLeA gLeA (xC (.int 0)) (xVar 2) (xC (.int 3000)))))) (yNo) (yNx)) (ySeq (yPar3 3 4 5 (xCons (xMake 1 m_Machine_init [] (xCons (xVar 0) (xCons (xVar 1) (xNil)))) (xCons (xLst (xNil)) (xCons (xC .non) (xNil))))) (ySeq (yWhile (xAnd (xTv (xOp gLtA (xCB (f1 gLen) (xCons (xVar 4) (xNil))) (xVar 2))) (xTv (xOp (gIsN false) (xFld 1 ⟨#[101, 110, 100]⟩ (xVar 3)) (xC .non)))) (ySeq (yAsg (xCall m_default_thread [] (xCons (xVar 3) (xCons (xVar 5) (xNil)))) (hName 5)) (ySeq (yDrop (xMeth 1 ⟨#[115, 116, 101, 112]⟩ m_Machine_step [] (xVar 3) (xCons (xVar 5) (xNil)))) (yDrop (xLM gAppend (xVar 4) (xCons (xVar 5) (xNil))))))) (yRet (xCB (f1 gTuple) (xCons (xVar 4) (xNil))))))
def m_by_default : XF := xDef 3 6 y_by_default
def y_law : XS := ySeq (yAsg (xCall mDraws [] (xCons (xVar 0) (xNil))) (hName 1)) (ySeq (yAsg (xOp gSubA (xCall mDraw [] (xCons (xVar 1) (xCons (xC (.int 9)) (xNil)))) (xC (.int 3))) (hName 2)) (ySeq (yAsg (xLst (xCons (xTup (xCons (xC (.str ⟨#[108, 111, 99, 107]⟩)) (xCons (xC (.int 0)) (xNil)))) (xCons (xTup (xCons (xC (.str ⟨#[103, 101, 116]⟩)) (xCons (xC (.int 0)) (xNil)))) (xCons (xTup (xCons (xC (.str ⟨#[108, 111, 97, 100]⟩)) (xCons (xC (.int 0)) (xNil)))) (xCons (xTup (xCons (xC (.str ⟨#[97, 100, 100]⟩)) (xNil))) (xCons (xTup (xCons (xC (.str ⟨#[112, 117, 116]⟩)) (xCons (xC (.int 0)) (xNil)))) (xCons (xTup (xCons (xC (.str ⟨#[102, 114, 101, 101]⟩)) (xCons (xC (.int 0)) (xNil)))) (xCons (xTup (xCons (xC (.str ⟨#[108, 111, 97, 100]⟩)) (xCons (xC (.int 0)) (xNil)))) (xCons (xTup (xCons (xC (.str ⟨#[103, 105, 118, 101]⟩)) (xNil))) (xNil)))))))))) (hName 3)) (ySeq (yAsg (xLst (xCons (xTup (xCons (xC (.str ⟨#[105, 110, 116]⟩)) (xCons (xVar 2) (xNil)))) (xCons (xTup (xCons (xC (.str ⟨#[115, 112, 97, 119, 110]⟩)) (xCons (xC (.str ⟨#[119, 111, 114, 107]⟩)) (xNil)))) (xCons (xTup (xCons (xC (.str ⟨#[115, 116, 111, 114, 101]⟩)) (xCons (xC (.int 0)) (xNil)))) (xCons (xTup (xCons (xC (.str ⟨#[105, 110, 116]⟩)) (xCons (xC (.int 2)) (xNil)))) (xCons (xTup (xCons (xC (.str ⟨#[115, 112, 97, 119, 110]⟩)) (xCons (xC (.str ⟨#[119, 111, 114, 107]⟩)) (xNil)))) (xCons (xTup (xCons (xC (.str ⟨#[115, 116, 111, 114, 101]⟩)) (xCons (xC (.int 1)) (xNil)))) (xCons (xTup (xCons (xC (.str ⟨#[108, 111, 97, 100]⟩)) (xCons (xC (.int 0)) (xNil)))) (xCons (xTup (xCons (xC (.str ⟨#[106, 111, 105, 110]⟩)) (xNil))) (xCons (xTup (xCons (xC (.str ⟨#[100, 114, 111, 112]⟩)) (xNil))) (xCons (xTup (xCons (xC (.str ⟨#[108, 111, 97, 100]⟩)) (xCons (xC (.int 1)) (xNil)))) (xCons (xTup (xCons (xC (.str ⟨#[106, 111, 105, 110]⟩)) (xNil))) (xCons (xTup (xCons (xC (.str ⟨#[103, 105, 118, 101]⟩)) (xNil))) (xNil)))))))))))))) (hName 4)) (ySeq (yAsg (xCall m_law_made [] (xCons (xVar 4) (xCons (xVar 3) (xCons (xTup (xCons (xC (.int 5)) (xNil))) (xCons (xC (.int 1)) (xNil)))))) (hName 5)) (ySeq (yAsg (xOp gAdd (xOp gAdd (xOp gAdd (xOp gMul (xTup (xCons (xC (.int 0)) (xNil))) (xC (.int 6))) (xOp gMul (xTup (xCons (xC (.int 1)) (xNil))) (xC (.int 8)))) (xOp gMul (xTup (xCons (xC (.int 2)) (xNil))) (xC (.int 8)))) (xOp gMul (xTup (xCons (xC (.int 0)) (xNil))) (xC (.int 6)))) (hName 6)) (ySeq (yAsg (xOp gAdd (xOp gAdd (xOp gAdd (xOp gMul (xTup (xCons (xC (.int 0)) (xNil))) (xC (.int 6))) (xOp gMul (xTup (xCons (xC (.int 2)) (xNil))) (xC (.int 8)))) (xOp gMul (xTup (xCons (xC (.int 1)) (xNil))) (xC (.int 8)))) (xOp gMul (xTup (xCons (xC (.int 0)) (xNil))) (xC (.int 6)))) (hName 7)) (ySeq (yIf (xNot (xTv (xCall (m_law_same 12) [] (xCons (xLst (xCons (xCall m_least_log [] (xCons (xVar 5) (xCons (xTup (xNil)) (xCons (xVar 6) (xNil))))) (xCons (xCall m_least_log [] (xCons (xVar 5) (xCons (xTup (xNil)) (xCons (xVar 7) (xNil))))) (xNil)))) (xCons (xLst (xCons (xTup (xCons (xTup (xCons (xC (.int 12)) (xCons (xC (.int 8)) (xCons (xC (.int 8)) (xNil))))) (xCons (xTup (xCons (xTup (xCons (xTup (xCons (xC (.int 1)) (xCons (xC (.int 5)) (xNil)))) (xCons (xTup (xCons (xC (.int 2)) (xCons (xC (.int 0)) (xNil)))) (xNil)))) (xNil))) (xNil)))) (xCons (xTup (xCons (xTup (xCons (xC (.int 12)) (xCons (xC (.int 8)) (xCons (xC (.int 8)) (xNil))))) (xCons (xTup (xCons (xTup (xCons (xTup (xCons (xC (.int 2)) (xCons (xC (.int 5)) (xNil)))) (xCons (xTup (xCons (xC (.int 1)) (xCons (xC (.int 0)) (xNil)))) (xNil)))) (xNil))) (xNil)))) (xNil)))) (xNil)))))) (yRet (xC (.bl false))) (yNx)) (ySeq (yAsg (xCall m_turned [] (xCons (xVar 5) (xCons (xTup (xNil)) (xCons (xVar 6) (xCons (xTup (xCons (xTup (xCons (xC (.int 1)) (xCons (xC (.int 5)) (xNil)))) (xCons (xTup (xCons (xC (.int 2)) (xCons (xC (.int 0)) (xNil)))) (xNil)))) (xNil)))))) (hName 8)) (ySeq (yIf (xTv (xOp gIsntT (xCall m_turned_right [] (xCons (xVar 5) (xCons (xTup (xNil)) (xCons (xCall m_least_log [] (xCons (xVar 5) (xCons (xTup (xNil)) (xCons (xVar 6) (xNil))))) (xCons (xTup (xCons (xTup (xCons (xC (.int 1)) (xCons (xC (.int 5)) (xNil)))) (xCons (xTup (xCons (xC (.int 2)) (xCons (xC (.int 0)) (xNil)))) (xNil)))) (xCons (xVar 8) (xNil))))))) (xC (.bl true)))) (yRet (xC (.bl false))) (yNx)) (ySeq (yAsg (xLst (xCons (xTup (xCons (xC (.str ⟨#[108, 111, 99, 107]⟩)) (xCons (xC (.int 0)) (xNil)))) (xCons (xTup (xCons (xC (.str ⟨#[105, 110, 116]⟩)) (xCons (xC (.int 7)) (xNil)))) (xCons (xTup (xCons (xC (.str ⟨#[112, 117, 116]⟩)) (xCons (xC (.int 0)) (xNil)))) (xCons (xTup (xCons (xC (.str ⟨#[102, 114, 101, 101]⟩)) (xCons (xC (.int 0)) (xNil)))) (xCons (xTup (xCons (xC (.str ⟨#[108, 111, 97, 100]⟩)) (xCons (xC (.int 0)) (xNil)))) (xCons (xTup (xCons (xC (.str ⟨#[103, 105, 118, 101]⟩)) (xNil))) (xNil)))))))) (hName 9)) (ySeq (yAsg (xLst (xCons (xTup (xCons (xC (.str ⟨#[105, 110, 116]⟩)) (xCons (xVar 2) (xNil)))) (xCons (xTup (xCons (xC (.str ⟨#[115, 112, 97, 119, 110]⟩)) (xCons (xC (.str ⟨#[119, 111, 114, 107]⟩)) (xNil)))) (xCons (xTup (xCons (xC (.str ⟨#[115, 116, 111, 114, 101]⟩)) (xCons (xC (.int 0)) (xNil)))) (xCons (xTup (xCons (xC (.str ⟨#[103, 101, 116]⟩)) (xCons (xC (.int 0)) (xNil)))) (xCons (xTup (xCons (xC (.str ⟨#[100, 114, 111, 112]⟩)) (xNil))) (xCons (xTup (xCons (xC (.str ⟨#[108, 111, 99, 107]⟩)) (xCons (xC (.int 0)) (xNil)))) (xCons (xTup (xCons (xC (.str ⟨#[102, 114, 101, 101]⟩)) (xCons (xC (.int 0)) (xNil)))) (xCons (xTup (xCons (xC (.str ⟨#[108, 111, 97, 100]⟩)) (xCons (xC (.int 0)) (xNil)))) (xCons (xTup (xCons (xC (.str ⟨#[106, 111, 105, 110]⟩)) (xNil))) (xCons (xTup (xCons (xC (.str ⟨#[103, 105, 118, 101]⟩)) (xNil))) (xNil)))))))))))) (hName 10)) (ySeq (yAsg (xCall m_law_made [] (xCons (xVar 10) (xCons (xVar 9) (xCons (xTup (xCons (xC (.int 0)) (xNil))) (xCons (xC (.int 1)) (xNil)))))) (hName 5)) (ySeq (yAsg (xOp gAdd (xOp gAdd (xOp gAdd (xOp gAdd (xTup (xCons (xC (.int 0)) (xCons (xC (.int 0)) (xCons (xC (.int 0)) (xNil))))) (xTup (xCons (xC (.int 1)) (xCons (xC (.int 1)) (xCons (xC (.int 1)) (xCons (xC (.int 1)) (xNil))))))) (xTup (xCons (xC (.int 0)) (xCons (xC (.int 0)) (xCons (xC (.int 0)) (xCons (xC (.int 0)) (xNil))))))) (xTup (xCons (xC (.int 1)) (xCons (xC (.int 1)) (xNil))))) (xTup (xCons (xC (.int 0)) (xCons (xC (.int 0)) (xCons (xC (.int 0)) (xNil)))))) (hName 11)) (ySeq (yIf (xNot (xTv (xCall (m_law_same 12) [] (xCons (xCall m_least_log [] (xCons (xVar 5) (xCons (xTup (xNil)) (xCons (xVar 11) (xNil))))) (xCons (xTup (xCons (xTup (xCons (xC (.int 10)) (xCons (xC (.int 6)) (xNil)))) (xCons (xTup (xCons (xTup (xCons (xTup (xCons (xC (.int 1)) (xCons (xC (.int 2)) (xNil)))) (xCons (xTup (xCons (xC (.int 0)) (xCons (xC (.int 3)) (xNil)))) (xNil)))) (xNil))) (xNil)))) (xNil)))))) (yRet (xC (.bl false))) (yNx)) (ySeq (yAsg (xOp gAdd (xOp gAdd (xOp gAdd (xOp gAdd (xTup (xCons (xC (.int 0)) (xCons (xC (.int 0)) (xCons (xC (.int 0)) (xCons (xC (.int 0)) (xCons (xC (.int 0)) (xNil))))))) (xTup (xCons (xC (.int 1)) (xCons (xC (.int 1)) (xCons (xC (.int 1)) (xCons (xC (.int 1)) (xNil))))))) (xTup (xCons (xC (.int 0)) (xCons (xC (.int 0)) (xNil))))) (xTup (xCons (xC (.int 1)) (xCons (xC (.int 1)) (xNil))))) (xTup (xCons (xC (.int 0)) (xCons (xC (.int 0)) (xCons (xC (.int 0)) (xNil)))))) (hName 11)) (ySeq (yIf (xNot (xTv (xCall (m_law_same 12) [] (xCons (xCall m_least_log [] (xCons (xVar 5) (xCons (xTup (xNil)) (xCons (xVar 11) (xNil))))) (xCons (xTup (xCons (xTup (xCons (xC (.int 10)) (xCons (xC (.int 6)) (xNil)))) (xCons (xTup (xCons (xTup (xCons (xTup (xCons (xC (.int 0)) (xCons (xC (.int 3)) (xNil)))) (xCons (xTup (xCons (xC (.int 1)) (xCons (xC (.int 2)) (xNil)))) (xNil)))) (xCons (xTup (xCons (xTup (xCons (xC (.int 1)) (xCons (xC (.int 3)) (xNil)))) (xCons (xTup (xCons (xC (.int 0)) (xCons (xC (.int 5)) (xNil)))) (xNil)))) (xNil)))) (xNil)))) (xNil)))))) (yRet (xC (.bl false))) (yNx)) (ySeq (yAsg (xLst (xCons (xTup (xCons (xC (.str ⟨#[97, 115, 107]⟩)) (xNil))) (xCons (xTup (xCons (xC (.str ⟨#[108, 111, 97, 100]⟩)) (xCons (xC (.int 0)) (xNil)))) (xCons (xTup (xCons (xC (.str ⟨#[100, 105, 118]⟩)) (xNil))) (xCons (xTup (xCons (xC (.str ⟨#[116, 101, 108, 108]⟩)) (xNil))) (xCons (xTup (xCons (xC (.str ⟨#[108, 111, 97, 100]⟩)) (xCons (xC (.int 0)) (xNil)))) (xCons (xTup (xCons (xC (.str ⟨#[103, 105, 118, 101]⟩)) (xNil))) (xNil)))))))) (hName 12)) (ySeq (yAsg (xLst (xCons (xTup (xCons (xC (.str ⟨#[105, 110, 116]⟩)) (xCons (xC (.int 0)) (xNil)))) (xCons (xTup (xCons (xC (.str ⟨#[115, 112, 97, 119, 110]⟩)) (xCons (xC (.str ⟨#[119, 111, 114, 107]⟩)) (xNil)))) (xCons (xTup (xCons (xC (.str ⟨#[115, 116, 111, 114, 101]⟩)) (xCons (xC (.int 0)) (xNil)))) (xCons (xTup (xCons (xC (.str ⟨#[97, 115, 107]⟩)) (xNil))) (xCons (xTup (xCons (xC (.str ⟨#[116, 101, 108, 108]⟩)) (xNil))) (xCons (xTup (xCons (xC (.str ⟨#[108, 111, 97, 100]⟩)) (xCons (xC (.int 0)) (xNil)))) (xCons (xTup (xCons (xC (.str ⟨#[106, 111, 105, 110]⟩)) (xNil))) (xCons (xTup (xCons (xC (.str ⟨#[103, 105, 118, 101]⟩)) (xNil))) (xNil)))))))))) (hName 13)) (ySeq (yAsg (xCall m_law_made [] (xCons (xVar 13) (xCons (xVar 12) (xCons (xTup (xCons (xC (.int 0)) (xNil))) (xCons (xC (.int 0)) (xNil)))))) (hName 5)) (ySeq (yAsg (xTup (xCons (xC (.int 0)) (xCons (xC (.int 0)) (xCons (xC (.int 0)) (xCons (xC (.int 0)) (xCons (xC (.int 1)) (xCons (xC (.int 0)) (xCons (xC (.int 1)) (xCons (xC (.int 1)) (xNil)))))))))) (hName 11)) (ySeq (yAsg (xCall m_least_log [] (xCons (xVar 5) (xCons (xTup (xCons (xC (.int 4)) (xCons (xVar 2) (xNil)))) (xCons (xVar 11) (xNil))))) (hName 14)) (ySeq (yIf (xNot (xTv (xCall (m_law_same 12) [] (xCons (xVar 14) (xCons (xTup (xCons (xTup (xCons (xC (.int 5)) (xCons (xC (.int 3)) (xNil)))) (xCons (xTup (xCons (xTup (xCons (xTup (xCons (xC (.int 0)) (xCons (xC (.int 3)) (xNil)))) (xCons (xTup (xCons (xC (.int 1)) (xCons (xC (.int 0)) (xNil)))) (xNil)))) (xNil))) (xNil)))) (xNil)))))) (yRet (xC (.bl false))) (yNx)) (ySeq (yAsg (xCall m_picture [] (xCons (xCall m_run [] (xCons (xVar 5) (xCons (xTup (xCons (xC (.int 4)) (xCons (xVar 2) (xNil)))) (xCons (xVar 11) (xNil))))) (xNil))) (hName 15)) (ySeq (yFor (xRng1 (xCons (xC (.int 3)) (xNil))) (hName 16) (ySeq (yAsg (xCall m_woven [] (xCons (xVar 5) (xCons (xTup (xCons (xC (.int 4)) (xCons (xVar 2) (xNil)))) (xCons (xVar 14) (xCons (xCB (f1 gTuple) (xCons (xLc (xRng1 (xCons (xC (.int 8)) (xNil))) (hName 18) (xYes) (xCall mDraw [] (xCons (xVar 1) (xCons (xC (.int 7)) (xNil)))) [18]) (xNil))) (xNil)))))) (hName 17)) (yIf (xNot (xTv (xCall (m_law_same 12) [] (xCons (xCall m_picture [] (xCons (xCall m_run [] (xCons (xVar 5) (xCons (xTup (xCons (xC (.int 4)) (xCons (xVar 2) (xNil)))) (xCons (xVar 17) (xNil))))) (xNil))) (xCons (xVar 15) (xNil)))))) (yRet (xC (.bl false))) (yNx)))) (ySeq (yIf (xOr (xTv (xOp gNe (xOp gIx (xVar 15) (xC (.int 6))) (xTup (xCons (xC (.str ⟨#[102, 97, 117, 108, 116]⟩)) (xCons (xUn gNeg (xC (.int 3))) (xCons (xC (.int 1)) (xCons (xC (.str ⟨#[119, 111, 114, 107]⟩)) (xCons (xC (.int 2)) (xNil))))))))) (xTv (xOp gEq (xCall m_by_default [] (xCons (xVar 5) (xCons (xTup (xCons (xC (.int 4)) (xCons (xVar 2) (xNil)))) (xCons (xC (.int 50)) (xNil))))) (xVar 11)))) (yRet (xC (.bl false))) (yNx)) (ySeq (yAsg (xCall m_law_made [] (xCons (xLst (xCons (xTup (xCons (xC (.str ⟨#[105, 110, 116]⟩)) (xCons (xC (.int 0)) (xNil)))) (xCons (xTup (xCons (xC (.str ⟨#[115, 112, 97, 119, 110]⟩)) (xCons (xC (.str ⟨#[119, 111, 114, 107]⟩)) (xNil)))) (xCons (xTup (xCons (xC (.str ⟨#[115, 116, 111, 114, 101]⟩)) (xCons (xC (.int 0)) (xNil)))) (xCons (xTup (xCons (xC (.str ⟨#[97, 115, 107]⟩)) (xNil))) (xCons (xTup (xCons (xC (.str ⟨#[103, 105, 118, 101]⟩)) (xNil))) (xNil))))))) (xCons (xLst (xCons (xTup (xCons (xC (.str ⟨#[97, 115, 107]⟩)) (xNil))) (xCons (xTup (xCons (xC (.str ⟨#[108, 111, 97, 100]⟩)) (xCons (xC (.int 0)) (xNil)))) (xCons (xTup (xCons (xC (.str ⟨#[103, 105, 118, 101]⟩)) (xNil))) (xNil))))) (xCons (xTup (xCons (xC (.int 0)) (xNil))) (xCons (xC (.int 0)) (xNil)))))) (hName 5)) (ySeq (yAsg (xCall m_least_log [] (xCons (xVar 5) (xCons (xTup (xCons (xVar 2) (xNil))) (xCons (xTup (xCons (xC (.int 0)) (xCons (xC (.int 0)) (xCons (xC (.int 0)) (xCons (xC (.int 0)) (xCons (xC (.int 1)) (xNil))))))) (xNil))))) (hName 14)) (ySeq (yIf (xNot (xTv (xCall (m_law_same 12) [] (xCons (xVar 14) (xCons (xTup (xCons (xTup (xCons (xC (.int 4)) (xCons (xC (.int 1)) (xNil)))) (xCons (xTup (xCons (xTup (xCons (xTup (xCons (xC (.int 0)) (xCons (xC (.int 3)) (xNil)))) (xCons (xTup (xCons (xC (.int 1)) (xCons (xC (.int 0)) (xNil)))) (xNil)))) (xNil))) (xNil)))) (xNil)))))) (yRet (xC (.bl false))) (yNx)) (ySeq (yAsg (xCall m_turned [] (xCons (xVar 5) (xCons (xTup (xCons (xVar 2) (xNil))) (xCons (xTup (xCons (xC (.int 0)) (xCons (xC (.int 0)) (xCons (xC (.int 0)) (xCons (xC (.int 0)) (xCons (xC (.int 1)) (xNil))))))) (xCons (xTup (xCons (xTup (xCons (xC (.int 0)) (xCons (xC (.int 3)) (xNil)))) (xCons (xTup (xCons (xC (.int 1)) (xCons (xC (.int 0)) (xNil)))) (xNil)))) (xNil)))))) (hName 17)) (ySeq (yIf (xTv (xOp gIsntT (xCall m_turned_right [] (xCons (xVar 5) (xCons (xTup (xCons (xVar 2) (xNil))) (xCons (xVar 14) (xCons (xTup (xCons (xTup (xCons (xC (.int 0)) (xCons (xC (.int 3)) (xNil)))) (xCons (xTup (xCons (xC (.int 1)) (xCons (xC (.int 0)) (xNil)))) (xNil)))) (xCons (xVar 17) (xNil))))))) (xC (.bl true)))) (yRet (xC (.bl false))) (yNx)) (ySeq (yAsg (xCall m_woven [] (xCons (xVar 5) (xCons (xTup (xCons (xVar 2) (xNil))) (xCons (xVar 14) (xCons (xCB (f1 gTuple) (xCons (xLc (xRng1 (xCons (xC (.int 5)) (xNil))) (hName 18) (xYes) (xCall mDraw [] (xCons (xVar 1) (xCons (xC (.int 7)) (xNil)))) [18]) (xNil))) (xNil)))))) (hName 17)) (yRet (xCall (m_law_same 12) [] (xCons (xLst (xCons (xVar 17) (xCons (xOp gIx (xCall m_picture [] (xCons (xCall m_run [] (xCons (xVar 5) (xCons (xTup (xCons (xVar 2) (xNil))) (xCons (xVar 17) (xNil))))) (xNil))) (xC (.int 6))) (xNil)))) (xCons (xLst (xCons (xTup (xCons (xC (.int 0)) (xCons (xC (.int 0)) (xCons (xC (.int 0)) (xCons (xC (.int 0)) (xCons (xC (.int 1)) (xNil))))))) (xCons (xTup (xCons (xC (.str ⟨#[102, 97, 117, 108, 116]⟩)) (xCons (xUn gNeg (xC (.int 7))) (xCons (xC (.int 1)) (xCons (xC (.str ⟨#[119, 111, 114, 107]⟩)) (xCons (xC (.int 0)) (xNil))))))) (xNil)))) (xNil))))))))))))))))))))))))))))))))))))
def m_law : XF := xDef 1 19 y_law
end K47
end

noncomputable section
namespace K47
open PySem Sh
def z0 : XS := yAsg (xCall mDraws [] (xCons (xVar 0) (xNil))) (hName 1)
def z1 : XS := yAsg (xOp gSubA (xCall mDraw [] (xCons (xVar 1) (xCons (xC (.int 9)) (xNil)))) (xC (.int 3))) (hName 2)
def z2 : XS := yAsg (xLst (xCons (xTup (xCons (xC (.str ⟨#[108, 111, 99, 107]⟩)) (xCons (xC (.int 0)) (xNil)))) (xCons (xTup (xCons (xC (.str ⟨#[103, 101, 116]⟩)) (xCons (xC (.int 0)) (xNil)))) (xCons (xTup (xCons (xC (.str ⟨#[108, 111, 97, 100]⟩)) (xCons (xC (.int 0)) (xNil)))) (xCons (xTup (xCons (xC (.str ⟨#[97, 100, 100]⟩)) (xNil))) (xCons (xTup (xCons (xC (.str ⟨#[112, 117, 116]⟩)) (xCons (xC (.int 0)) (xNil)))) (xCons (xTup (xCons (xC (.str ⟨#[102, 114, 101, 101]⟩)) (xCons (xC (.int 0)) (xNil)))) (xCons (xTup (xCons (xC (.str ⟨#[108, 111, 97, 100]⟩)) (xCons (xC (.int 0)) (xNil)))) (xCons (xTup (xCons (xC (.str ⟨#[103, 105, 118, 101]⟩)) (xNil))) (xNil)))))))))) (hName 3)
def z3 : XS := yAsg (xLst (xCons (xTup (xCons (xC (.str ⟨#[105, 110, 116]⟩)) (xCons (xVar 2) (xNil)))) (xCons (xTup (xCons (xC (.str ⟨#[115, 112, 97, 119, 110]⟩)) (xCons (xC (.str ⟨#[119, 111, 114, 107]⟩)) (xNil)))) (xCons (xTup (xCons (xC (.str ⟨#[115, 116, 111, 114, 101]⟩)) (xCons (xC (.int 0)) (xNil)))) (xCons (xTup (xCons (xC (.str ⟨#[105, 110, 116]⟩)) (xCons (xC (.int 2)) (xNil)))) (xCons (xTup (xCons (xC (.str ⟨#[115, 112, 97, 119, 110]⟩)) (xCons (xC (.str ⟨#[119, 111, 114, 107]⟩)) (xNil)))) (xCons (xTup (xCons (xC (.str ⟨#[115, 116, 111, 114, 101]⟩)) (xCons (xC (.int 1)) (xNil)))) (xCons (xTup (xCons (xC (.str ⟨#[108, 111, 97, 100]⟩)) (xCons (xC (.int 0)) (xNil)))) (xCons (xTup (xCons (xC (.str ⟨#[106, 111, 105, 110]⟩)) (xNil))) (xCons (xTup (xCons (xC (.str ⟨#[100, 114, 111, 112]⟩)) (xNil))) (xCons (xTup (xCons (xC (.str ⟨#[108, 111, 97, 100]⟩)) (xCons (xC (.int 1)) (xNil)))) (xCons (xTup (xCons (xC (.str ⟨#[106, 111, 105, 110]⟩)) (xNil))) (xCons (xTup (xCons (xC (.str ⟨#[103, 105, 118, 101]⟩)) (xNil))) (xNil)))))))))))))) (hName 4)
def z4 : XS := yAsg (xCall m_law_made [] (xCons (xVar 4) (xCons (xVar 3) (xCons (xTup (xCons (xC (.int 5)) (xNil))) (xCons (xC (.int 1)) (xNil)))))) (hName 5)
def z5 : XS := yAsg (xOp gAdd (xOp gAdd (xOp gAdd (xOp gMul (xTup (xCons (xC (.int 0)) (xNil))) (xC (.int 6))) (xOp gMul (xTup (xCons (xC (.int 1)) (xNil))) (xC (.int 8)))) (xOp gMul (xTup (xCons (xC (.int 2)) (xNil))) (xC (.int 8)))) (xOp gMul (xTup (xCons (xC (.int 0)) (xNil))) (xC (.int 6)))) (hName 6)
def z6 : XS := yAsg (xOp gAdd (xOp gAdd (xOp gAdd (xOp gMul (xTup (xCons (xC (.int 0)) (xNil))) (xC (.int 6))) (xOp gMul (xTup (xCons (xC (.int 2)) (xNil))) (xC (.int 8)))) (xOp gMul (xTup (xCons (xC (.int 1)) (xNil))) (xC (.int 8)))) (xOp gMul (xTup (xCons (xC (.int 0)) (xNil))) (xC (.int 6)))) (hName 7)
def z7 : XS := yIf (xNot (xTv (xCall (m_law_same 12) [] (xCons (xLst (xCons (xCall m_least_log [] (xCons (xVar 5) (xCons (xTup (xNil)) (xCons (xVar 6) (xNil))))) (xCons (xCall m_least_log [] (xCons (xVar 5) (xCons (xTup (xNil)) (xCons (xVar 7) (xNil))))) (xNil)))) (xCons (xLst (xCons (xTup (xCons (xTup (xCons (xC (.int 12)) (xCons (xC (.int 8)) (xCons (xC (.int 8)) (xNil))))) (xCons (xTup (xCons (xTup (xCons (xTup (xCons (xC (.int 1)) (xCons (xC (.int 5)) (xNil)))) (xCons (xTup (xCons (xC (.int 2)) (xCons (xC (.int 0)) (xNil)))) (xNil)))) (xNil))) (xNil)))) (xCons (xTup (xCons (xTup (xCons (xC (.int 12)) (xCons (xC (.int 8)) (xCons (xC (.int 8)) (xNil))))) (xCons (xTup (xCons (xTup (xCons (xTup (xCons (xC (.int 2)) (xCons (xC (.int 5)) (xNil)))) (xCons (xTup (xCons (xC (.int 1)) (xCons (xC (.int 0)) (xNil)))) (xNil)))) (xNil))) (xNil)))) (xNil)))) (xNil)))))) (yRet (xC (.bl false))) (yNx)
def z8 : XS := yAsg (xCall m_turned [] (xCons (xVar 5) (xCons (xTup (xNil)) (xCons (xVar 6) (xCons (xTup (xCons (xTup (xCons (xC (.int 1)) (xCons (xC (.int 5)) (xNil)))) (xCons (xTup (xCons (xC (.int 2)) (xCons (xC (.int 0)) (xNil)))) (xNil)))) (xNil)))))) (hName 8)
def z9 : XS := yIf (xTv (xOp gIsntT (xCall m_turned_right [] (xCons (xVar 5) (xCons (xTup (xNil)) (xCons (xCall m_least_log [] (xCons (xVar 5) (xCons (xTup (xNil)) (xCons (xVar 6) (xNil))))) (xCons (xTup (xCons (xTup (xCons (xC (.int 1)) (xCons (xC (.int 5)) (xNil)))) (xCons (xTup (xCons (xC (.int 2)) (xCons (xC (.int 0)) (xNil)))) (xNil)))) (xCons (xVar 8) (xNil))))))) (xC (.bl true)))) (yRet (xC (.bl false))) (yNx)
def z10 : XS := yAsg (xLst (xCons (xTup (xCons (xC (.str ⟨#[108, 111, 99, 107]⟩)) (xCons (xC (.int 0)) (xNil)))) (xCons (xTup (xCons (xC (.str ⟨#[105, 110, 116]⟩)) (xCons (xC (.int 7)) (xNil)))) (xCons (xTup (xCons (xC (.str ⟨#[112, 117, 116]⟩)) (xCons (xC (.int 0)) (xNil)))) (xCons (xTup (xCons (xC (.str ⟨#[102, 114, 101, 101]⟩)) (xCons (xC (.int 0)) (xNil)))) (xCons (xTup (xCons (xC (.str ⟨#[108, 111, 97, 100]⟩)) (xCons (xC (.int 0)) (xNil)))) (xCons (xTup (xCons (xC (.str ⟨#[103, 105, 118, 101]⟩)) (xNil))) (xNil)))))))) (hName 9)
def z11 : XS := yAsg (xLst (xCons (xTup (xCons (xC (.str ⟨#[105, 110, 116]⟩)) (xCons (xVar 2) (xNil)))) (xCons (xTup (xCons (xC (.str ⟨#[115, 112, 97, 119, 110]⟩)) (xCons (xC (.str ⟨#[119, 111, 114, 107]⟩)) (xNil)))) (xCons (xTup (xCons (xC (.str ⟨#[115, 116, 111, 114, 101]⟩)) (xCons (xC (.int 0)) (xNil)))) (xCons (xTup (xCons (xC (.str ⟨#[103, 101, 116]⟩)) (xCons (xC (.int 0)) (xNil)))) (xCons (xTup (xCons (xC (.str ⟨#[100, 114, 111, 112]⟩)) (xNil))) (xCons (xTup (xCons (xC (.str ⟨#[108, 111, 99, 107]⟩)) (xCons (xC (.int 0)) (xNil)))) (xCons (xTup (xCons (xC (.str ⟨#[102, 114, 101, 101]⟩)) (xCons (xC (.int 0)) (xNil)))) (xCons (xTup (xCons (xC (.str ⟨#[108, 111, 97, 100]⟩)) (xCons (xC (.int 0)) (xNil)))) (xCons (xTup (xCons (xC (.str ⟨#[106, 111, 105, 110]⟩)) (xNil))) (xCons (xTup (xCons (xC (.str ⟨#[103, 105, 118, 101]⟩)) (xNil))) (xNil)))))))))))) (hName 10)
def z12 : XS := yAsg (xCall m_law_made [] (xCons (xVar 10) (xCons (xVar 9) (xCons (xTup (xCons (xC (.int 0)) (xNil))) (xCons (xC (.int 1)) (xNil)))))) (hName 5)
def z13 : XS := yAsg (xOp gAdd (xOp gAdd (xOp gAdd (xOp gAdd (xTup (xCons (xC (.int 0)) (xCons (xC (.int 0)) (xCons (xC (.int 0)) (xNil))))) (xTup (xCons (xC (.int 1)) (xCons (xC (.int 1)) (xCons (xC (.int 1)) (xCons (xC (.int 1)) (xNil))))))) (xTup (xCons (xC (.int 0)) (xCons (xC (.int 0)) (xCons (xC (.int 0)) (xCons (xC (.int 0)) (xNil))))))) (xTup (xCons (xC (.int 1)) (xCons (xC (.int 1)) (xNil))))) (xTup (xCons (xC (.int 0)) (xCons (xC (.int 0)) (xCons (xC (.int 0)) (xNil)))))) (hName 11)
def z14 : XS := yIf (xNot (xTv (xCall (m_law_same 12) [] (xCons (xCall m_least_log [] (xCons (xVar 5) (xCons (xTup (xNil)) (xCons (xVar 11) (xNil))))) (xCons (xTup (xCons (xTup (xCons (xC (.int 10)) (xCons (xC (.int 6)) (xNil)))) (xCons (xTup (xCons (xTup (xCons (xTup (xCons (xC (.int 1)) (xCons (xC (.int 2)) (xNil)))) (xCons (xTup (xCons (xC (.int 0)) (xCons (xC (.int 3)) (xNil)))) (xNil)))) (xNil))) (xNil)))) (xNil)))))) (yRet (xC (.bl false))) (yNx)
def z15 : XS := yAsg (xOp gAdd (xOp gAdd (xOp gAdd (xOp gAdd (xTup (xCons (xC (.int 0)) (xCons (xC (.int 0)) (xCons (xC (.int 0)) (xCons (xC (.int 0)) (xCons (xC (.int 0)) (xNil))))))) (xTup (xCons (xC (.int 1)) (xCons (xC (.int 1)) (xCons (xC (.int 1)) (xCons (xC (.int 1)) (xNil))))))) (xTup (xCons (xC (.int 0)) (xCons (xC (.int 0)) (xNil))))) (xTup (xCons (xC (.int 1)) (xCons (xC (.int 1)) (xNil))))) (xTup (xCons (xC (.int 0)) (xCons (xC (.int 0)) (xCons (xC (.int 0)) (xNil)))))) (hName 11)
def z16 : XS := yIf (xNot (xTv (xCall (m_law_same 12) [] (xCons (xCall m_least_log [] (xCons (xVar 5) (xCons (xTup (xNil)) (xCons (xVar 11) (xNil))))) (xCons (xTup (xCons (xTup (xCons (xC (.int 10)) (xCons (xC (.int 6)) (xNil)))) (xCons (xTup (xCons (xTup (xCons (xTup (xCons (xC (.int 0)) (xCons (xC (.int 3)) (xNil)))) (xCons (xTup (xCons (xC (.int 1)) (xCons (xC (.int 2)) (xNil)))) (xNil)))) (xCons (xTup (xCons (xTup (xCons (xC (.int 1)) (xCons (xC (.int 3)) (xNil)))) (xCons (xTup (xCons (xC (.int 0)) (xCons (xC (.int 5)) (xNil)))) (xNil)))) (xNil)))) (xNil)))) (xNil)))))) (yRet (xC (.bl false))) (yNx)
def z17 : XS := yAsg (xLst (xCons (xTup (xCons (xC (.str ⟨#[97, 115, 107]⟩)) (xNil))) (xCons (xTup (xCons (xC (.str ⟨#[108, 111, 97, 100]⟩)) (xCons (xC (.int 0)) (xNil)))) (xCons (xTup (xCons (xC (.str ⟨#[100, 105, 118]⟩)) (xNil))) (xCons (xTup (xCons (xC (.str ⟨#[116, 101, 108, 108]⟩)) (xNil))) (xCons (xTup (xCons (xC (.str ⟨#[108, 111, 97, 100]⟩)) (xCons (xC (.int 0)) (xNil)))) (xCons (xTup (xCons (xC (.str ⟨#[103, 105, 118, 101]⟩)) (xNil))) (xNil)))))))) (hName 12)
def z18 : XS := yAsg (xLst (xCons (xTup (xCons (xC (.str ⟨#[105, 110, 116]⟩)) (xCons (xC (.int 0)) (xNil)))) (xCons (xTup (xCons (xC (.str ⟨#[115, 112, 97, 119, 110]⟩)) (xCons (xC (.str ⟨#[119, 111, 114, 107]⟩)) (xNil)))) (xCons (xTup (xCons (xC (.str ⟨#[115, 116, 111, 114, 101]⟩)) (xCons (xC (.int 0)) (xNil)))) (xCons (xTup (xCons (xC (.str ⟨#[97, 115, 107]⟩)) (xNil))) (xCons (xTup (xCons (xC (.str ⟨#[116, 101, 108, 108]⟩)) (xNil))) (xCons (xTup (xCons (xC (.str ⟨#[108, 111, 97, 100]⟩)) (xCons (xC (.int 0)) (xNil)))) (xCons (xTup (xCons (xC (.str ⟨#[106, 111, 105, 110]⟩)) (xNil))) (xCons (xTup (xCons (xC (.str ⟨#[103, 105, 118, 101]⟩)) (xNil))) (xNil)))))))))) (hName 13)
def z19 : XS := yAsg (xCall m_law_made [] (xCons (xVar 13) (xCons (xVar 12) (xCons (xTup (xCons (xC (.int 0)) (xNil))) (xCons (xC (.int 0)) (xNil)))))) (hName 5)
def z20 : XS := yAsg (xTup (xCons (xC (.int 0)) (xCons (xC (.int 0)) (xCons (xC (.int 0)) (xCons (xC (.int 0)) (xCons (xC (.int 1)) (xCons (xC (.int 0)) (xCons (xC (.int 1)) (xCons (xC (.int 1)) (xNil)))))))))) (hName 11)
def z21 : XS := yAsg (xCall m_least_log [] (xCons (xVar 5) (xCons (xTup (xCons (xC (.int 4)) (xCons (xVar 2) (xNil)))) (xCons (xVar 11) (xNil))))) (hName 14)
def z22 : XS := yIf (xNot (xTv (xCall (m_law_same 12) [] (xCons (xVar 14) (xCons (xTup (xCons (xTup (xCons (xC (.int 5)) (xCons (xC (.int 3)) (xNil)))) (xCons (xTup (xCons (xTup (xCons (xTup (xCons (xC (.int 0)) (xCons (xC (.int 3)) (xNil)))) (xCons (xTup (xCons (xC (.int 1)) (xCons (xC (.int 0)) (xNil)))) (xNil)))) (xNil))) (xNil)))) (xNil)))))) (yRet (xC (.bl false))) (yNx)
def z23 : XS := yAsg (xCall m_picture [] (xCons (xCall m_run [] (xCons (xVar 5) (xCons (xTup (xCons (xC (.int 4)) (xCons (xVar 2) (xNil)))) (xCons (xVar 11) (xNil))))) (xNil))) (hName 15)
def z24b : XS := ySeq (yAsg (xCall m_woven [] (xCons (xVar 5) (xCons (xTup (xCons (xC (.int 4)) (xCons (xVar 2) (xNil)))) (xCons (xVar 14) (xCons (xCB (f1 gTuple) (xCons (xLc (xRng1 (xCons (xC (.int 8)) (xNil))) (hName 18) (xYes) (xCall mDraw [] (xCons (xVar 1) (xCons (xC (.int 7)) (xNil)))) [18]) (xNil))) (xNil)))))) (hName 17)) (yIf (xNot (xTv (xCall (m_law_same 12) [] (xCons (xCall m_picture [] (xCons (xCall m_run [] (xCons (xVar 5) (xCons (xTup (xCons (xC (.int 4)) (xCons (xVar 2) (xNil)))) (xCons (xVar 17) (xNil))))) (xNil))) (xCons (xVar 15) (xNil)))))) (yRet (xC (.bl false))) (yNx))
def z25 : XS := yIf (xOr (xTv (xOp gNe (xOp gIx (xVar 15) (xC (.int 6))) (xTup (xCons (xC (.str ⟨#[102, 97, 117, 108, 116]⟩)) (xCons (xUn gNeg (xC (.int 3))) (xCons (xC (.int 1)) (xCons (xC (.str ⟨#[119, 111, 114, 107]⟩)) (xCons (xC (.int 2)) (xNil))))))))) (xTv (xOp gEq (xCall m_by_default [] (xCons (xVar 5) (xCons (xTup (xCons (xC (.int 4)) (xCons (xVar 2) (xNil)))) (xCons (xC (.int 50)) (xNil))))) (xVar 11)))) (yRet (xC (.bl false))) (yNx)
def z26 : XS := yAsg (xCall m_law_made [] (xCons (xLst (xCons (xTup (xCons (xC (.str ⟨#[105, 110, 116]⟩)) (xCons (xC (.int 0)) (xNil)))) (xCons (xTup (xCons (xC (.str ⟨#[115, 112, 97, 119, 110]⟩)) (xCons (xC (.str ⟨#[119, 111, 114, 107]⟩)) (xNil)))) (xCons (xTup (xCons (xC (.str ⟨#[115, 116, 111, 114, 101]⟩)) (xCons (xC (.int 0)) (xNil)))) (xCons (xTup (xCons (xC (.str ⟨#[97, 115, 107]⟩)) (xNil))) (xCons (xTup (xCons (xC (.str ⟨#[103, 105, 118, 101]⟩)) (xNil))) (xNil))))))) (xCons (xLst (xCons (xTup (xCons (xC (.str ⟨#[97, 115, 107]⟩)) (xNil))) (xCons (xTup (xCons (xC (.str ⟨#[108, 111, 97, 100]⟩)) (xCons (xC (.int 0)) (xNil)))) (xCons (xTup (xCons (xC (.str ⟨#[103, 105, 118, 101]⟩)) (xNil))) (xNil))))) (xCons (xTup (xCons (xC (.int 0)) (xNil))) (xCons (xC (.int 0)) (xNil)))))) (hName 5)
def z27 : XS := yAsg (xCall m_least_log [] (xCons (xVar 5) (xCons (xTup (xCons (xVar 2) (xNil))) (xCons (xTup (xCons (xC (.int 0)) (xCons (xC (.int 0)) (xCons (xC (.int 0)) (xCons (xC (.int 0)) (xCons (xC (.int 1)) (xNil))))))) (xNil))))) (hName 14)
def z28 : XS := yIf (xNot (xTv (xCall (m_law_same 12) [] (xCons (xVar 14) (xCons (xTup (xCons (xTup (xCons (xC (.int 4)) (xCons (xC (.int 1)) (xNil)))) (xCons (xTup (xCons (xTup (xCons (xTup (xCons (xC (.int 0)) (xCons (xC (.int 3)) (xNil)))) (xCons (xTup (xCons (xC (.int 1)) (xCons (xC (.int 0)) (xNil)))) (xNil)))) (xNil))) (xNil)))) (xNil)))))) (yRet (xC (.bl false))) (yNx)
def z29 : XS := yAsg (xCall m_turned [] (xCons (xVar 5) (xCons (xTup (xCons (xVar 2) (xNil))) (xCons (xTup (xCons (xC (.int 0)) (xCons (xC (.int 0)) (xCons (xC (.int 0)) (xCons (xC (.int 0)) (xCons (xC (.int 1)) (xNil))))))) (xCons (xTup (xCons (xTup (xCons (xC (.int 0)) (xCons (xC (.int 3)) (xNil)))) (xCons (xTup (xCons (xC (.int 1)) (xCons (xC (.int 0)) (xNil)))) (xNil)))) (xNil)))))) (hName 17)
def z30 : XS := yIf (xTv (xOp gIsntT (xCall m_turned_right [] (xCons (xVar 5) (xCons (xTup (xCons (xVar 2) (xNil))) (xCons (xVar 14) (xCons (xTup (xCons (xTup (xCons (xC (.int 0)) (xCons (xC (.int 3)) (xNil)))) (xCons (xTup (xCons (xC (.int 1)) (xCons (xC (.int 0)) (xNil)))) (xNil)))) (xCons (xVar 17) (xNil))))))) (xC (.bl true)))) (yRet (xC (.bl false))) (yNx)
def z31 : XS := yAsg (xCall m_woven [] (xCons (xVar 5) (xCons (xTup (xCons (xVar 2) (xNil))) (xCons (xVar 14) (xCons (xCB (f1 gTuple) (xCons (xLc (xRng1 (xCons (xC (.int 5)) (xNil))) (hName 18) (xYes) (xCall mDraw [] (xCons (xVar 1) (xCons (xC (.int 7)) (xNil)))) [18]) (xNil))) (xNil)))))) (hName 17)
def z32 : XS := yRet (xCall (m_law_same 12) [] (xCons (xLst (xCons (xVar 17) (xCons (xOp gIx (xCall m_picture [] (xCons (xCall m_run [] (xCons (xVar 5) (xCons (xTup (xCons (xVar 2) (xNil))) (xCons (xVar 17) (xNil))))) (xNil))) (xC (.int 6))) (xNil)))) (xCons (xLst (xCons (xTup (xCons (xC (.int 0)) (xCons (xC (.int 0)) (xCons (xC (.int 0)) (xCons (xC (.int 0)) (xCons (xC (.int 1)) (xNil))))))) (xCons (xTup (xCons (xC (.str ⟨#[102, 97, 117, 108, 116]⟩)) (xCons (xUn gNeg (xC (.int 7))) (xCons (xC (.int 1)) (xCons (xC (.str ⟨#[119, 111, 114, 107]⟩)) (xCons (xC (.int 0)) (xNil))))))) (xNil)))) (xNil))))
abbrev Ls : Type := List (Int × U)
def mS (r : Ls) : Mem := ⟨Tr.set 41 .nil 0 (.src ((9, .num 0) :: r)), 2⟩
def sS : S := startU 19 [.ref 0]
def mB (r : Ls) : Mem := ⟨Tr.set 41 (Tr.set 41 .nil 2 .scr) 3 (.drw 2 r), 4⟩
def sB : S := [none, some (.ref 3), some (.num (-3))] ++ List.replicate 16 none
def fS (o : Option (Fl × Mem)) : S := match o with
  | some (.nx s, _) => s
  | _ => []
def fM (o : Option (Fl × Mem)) : Mem := match o with
  | some (_, m) => m
  | none => ⟨.nil, 0⟩
def goes (o : Option (Fl × Mem)) (m' : Mem) (s' : S) : Bool × Option Ob × Option Ob := match o with
  | some (.nx s, m) => (Nat.ble m'.n m.n && (Nat.ble 4 m'.n && (sameM m'.n m' m m'.n && cutS m'.n s' s)), m.get 3, m'.get 3)
  | _ => (false, none, none)
def toM (r : Ls) : Option (Fl × Mem) := stT [z2, z3, z4, z5, z6] sB (mB r)
def toD (r : Ls) : Option (Fl × Mem) := stT [z17, z18, z19, z20, z21, z22, z23] sB (mB r)
def bits (bs : List Bool) : Ls := bs.map fun b => (7, .dr b)
abbrev yes (r : Ls) : Bool × Option Ob × Option Ob := (true, some (.drw 2 r), some (.drw 2 r))
theorem v0 (r : Ls) : goes (stT [z0, z1] sS (mS r)) (mB r) sB = yes r := by kernel_rfl
end K47
end

noncomputable section
namespace K47
open PySem Sh
theorem v1 (r : Ls) : goes (toM r) (fM (toM r)) (fS (toM r)) = yes r := by kernel_rfl
theorem v2 (r : Ls) : goes (stT [z7] (fS (toM r)) (fM (toM r))) (fM (toM r)) (fS (toM r)) = yes r := by kernel_rfl
theorem v3 (r : Ls) : goes (stT [z8, z9] (fS (toM r)) (fM (toM r))) (mB r) sB = yes r := by kernel_rfl
theorem v4 (r : Ls) : goes (stT [z10, z11, z12, z13, z14, z15, z16] sB (mB r)) (mB r) sB = yes r := by kernel_rfl
theorem v5 (r : Ls) : goes (toD r) (fM (toD r)) (fS (toD r)) = yes r := by kernel_rfl
theorem v7 (r : Ls) : goes (stT [z25] (fS (toD r)) (fM (toD r))) (mB r) sB = yes r := by kernel_rfl
def step (i : Int) (r : Ls) : Option (Fl × Mem) := stT [z24b] ((fS (toD r)).set 16 (some (.int i))) (fM (toD r))
theorem v6a (i : Int) (b0 b1 b2 b3 b5 b6 b7 : Bool) (r : Ls) : goes (step i ((7, .dr b0) :: (7, .dr b1) :: (7, .dr b2) :: (7, .dr b3) :: (7, .dr false) :: (7, .dr b5) :: (7, .dr b6) :: (7, .dr b7) :: r)) (fM (toD r)) (fS (toD r)) = yes r := by kernel_rfl
theorem v6b (i : Int) (b0 b1 b2 b3 b6 b7 : Bool) (r : Ls) : goes (step i ((7, .dr b0) :: (7, .dr b1) :: (7, .dr b2) :: (7, .dr b3) :: (7, .dr true) :: (7, .dr false) :: (7, .dr b6) :: (7, .dr b7) :: r)) (fM (toD r)) (fS (toD r)) = yes r := by kernel_rfl
theorem v6c (i : Int) (b0 b1 b2 b3 b6 b7 : Bool) (r : Ls) : goes (step i ((7, .dr b0) :: (7, .dr b1) :: (7, .dr b2) :: (7, .dr b3) :: (7, .dr true) :: (7, .dr true) :: (7, .dr b6) :: (7, .dr b7) :: r)) (fM (toD r)) (fS (toD r)) = yes r := by kernel_rfl
def isT (o : Option (Fl × Mem)) : Bool := match o with
  | some (.rt u, _) => uEq u (.bl true)
  | _ => false
theorem v8 (b0 b1 b2 b3 b4 : Bool) : isT (stT [z26, z27, z28, z29, z30, z31, z32] sB (mB [(7, .dr b0), (7, .dr b1), (7, .dr b2), (7, .dr b3), (7, .dr b4)])) = true := by kernel_rfl
end K47
end

noncomputable section
namespace K47
open PySem PySem.Spec PyProof.Rows L2 Sh
/-! ### what the module holds -/
theorem rv_ALONE : ∀ ρ, RVs ρ k_ALONE kv_ALONE := fun _ => .cons rfl (.cons rfl (.cons rfl (.cons rfl (.cons rfl (.cons rfl (.cons rfl (.cons rfl (.cons rfl (.cons rfl (.cons rfl (.cons rfl (.cons rfl (.cons rfl (.cons rfl (.cons rfl (.cons rfl (.nil)))))))))))))))))
theorem rv_CONDITIONS : ∀ ρ, RVs ρ k_CONDITIONS kv_CONDITIONS := fun _ => .cons rfl (.cons rfl (.cons rfl (.cons rfl (.cons rfl (.cons rfl (.nil))))))
theorem rv_WORKS : ∀ ρ, RVs ρ k_WORKS kv_WORKS := fun _ => .cons rfl (.cons rfl (.cons rfl (.cons rfl (.cons rfl (.cons rfl (.cons rfl (.cons rfl (.nil))))))))
structure Fx (K : PySem.W.Frag) (CA : Cd) (mg : Str → Option Value) : Prop where
  b_abs : mg "abs" = none
  b_all : mg "all" = none
  b_any : mg "any" = none
  b_bool : mg "bool" = none
  b_enumerate : mg "enumerate" = none
  b_int : mg "int" = none
  b_isinstance : mg "isinstance" = none
  b_len : mg "len" = none
  b_list : mg "list" = none
  b_max : mg "max" = none
  b_range : mg "range" = none
  b_sorted : mg "sorted" = none
  b_str : mg "str" = none
  b_sum : mg "sum" = none
  b_tuple : mg "tuple" = none
  n_ALONE : mg "ALONE" = some (.ref (He.ga K "ALONE"))
  t_ALONE : KTup K (He.ga K "ALONE") kv_ALONE
  g_BOUNDS : ∃ w, mg "BOUNDS" = some w ∧ RelV (.int (-2)) w
  n_CONDITIONS : mg "CONDITIONS" = some (.ref (He.ga K "CONDITIONS"))
  t_CONDITIONS : KTup K (He.ga K "CONDITIONS") kv_CONDITIONS
  g_DEEP : ∃ w, mg "DEEP" = some w ∧ RelV (.int (-8)) w
  g_EMPTY : ∃ w, mg "EMPTY" = some w ∧ RelV (.int (-7)) w
  g_FEW : ∃ w, mg "FEW" = some w ∧ RelV (.int (-12)) w
  g_HALF : ∃ w, mg "HALF" = some w ∧ RelV (.int 2147483648) w
  g_MANY : ∃ w, mg "MANY" = some w ∧ RelV (.int (-11)) w
  g_MOST_CELLS : ∃ w, mg "MOST_CELLS" = some w ∧ RelV (.int 16) w
  g_MOST_CODE : ∃ w, mg "MOST_CODE" = some w ∧ RelV (.int 80) w
  g_MOST_FRAMES : ∃ w, mg "MOST_FRAMES" = some w ∧ RelV (.int 20) w
  g_MOST_LOCALS : ∃ w, mg "MOST_LOCALS" = some w ∧ RelV (.int 8) w
  g_MOST_LOCKS : ∃ w, mg "MOST_LOCKS" = some w ∧ RelV (.int 6) w
  g_MOST_PARAMS : ∃ w, mg "MOST_PARAMS" = some w ∧ RelV (.int 4) w
  g_MOST_PROCS : ∃ w, mg "MOST_PROCS" = some w ∧ RelV (.int 12) w
  g_MOST_STEPS : ∃ w, mg "MOST_STEPS" = some w ∧ RelV (.int 3000) w
  g_MOST_THREADS : ∃ w, mg "MOST_THREADS" = some w ∧ RelV (.int 8) w
  g_OWNER : ∃ w, mg "OWNER" = some w ∧ RelV (.int (-9)) w
  n_SHARED : mg "SHARED" = some (.ref (He.ga K "SHARED"))
  t_SHARED : ∃ q1 q2, KTup K (He.ga K "SHARED") [.ref q1, .ref q2] ∧ KTup K q1 [.str ⟨#[105, 110, 112, 117, 116, 115]⟩] ∧ KTup K q2 [.str ⟨#[116, 104, 114, 101, 97, 100, 115]⟩]
  g_SMALL : ∃ w, mg "SMALL" = some w ∧ RelV (.str ⟨#[97, 98, 99, 100, 101, 102, 103, 104, 105, 106, 107, 108, 109, 110, 111, 112, 113, 114, 115, 116, 117, 118, 119, 120, 121, 122]⟩) w
  g_THREAD : ∃ w, mg "THREAD" = some w ∧ RelV (.int (-10)) w
  g_WIDE : ∃ w, mg "WIDE" = some w ∧ RelV (.int 4294967296) w
  n_WORKS : mg "WORKS" = some (.ref (He.ga K "WORKS"))
  t_WORKS : KTup K (He.ga K "WORKS") kv_WORKS
  g_ZERO : ∃ w, mg "ZERO" = some w ∧ RelV (.int (-3)) w
  c0 : Cls K (CA 0)
  mg0 : mg "Program" = some (.ref (CA 0))
  c1 : Cls K (CA 1)
  mg1 : mg "Machine" = some (.ref (CA 1))
  c2 : Cls K (CA 2)
  mg2 : mg "Touched" = some (.ref (CA 2))
  c3 : Cls K (CA 3)
  mg3 : mg "Follows" = some (.ref (CA 3))
  ic0 : C8.InsC K (CA 0)
  na0_by : NoAttr K (CA 0) "by"
  na0_cells : NoAttr K (CA 0) "cells"
  na0_locks : NoAttr K (CA 0) "locks"
  na0_procs : NoAttr K (CA 0) "procs"
  na0_start : NoAttr K (CA 0) "start"
  na1_asked : NoAttr K (CA 1) "asked"
  na1_cells : NoAttr K (CA 1) "cells"
  na1_end : NoAttr K (CA 1) "end"
  na1_inputs : NoAttr K (CA 1) "inputs"
  na1_owners : NoAttr K (CA 1) "owners"
  na1_program : NoAttr K (CA 1) "program"
  na1_said : NoAttr K (CA 1) "said"
  na1_steps : NoAttr K (CA 1) "steps"
  na1_threads : NoAttr K (CA 1) "threads"
  na2_last : NoAttr K (CA 2) "last"
  na2_since : NoAttr K (CA 2) "since"
  na3_lots : NoAttr K (CA 3) "lots"
  na3_rows : NoAttr K (CA 3) "rows"
  na3_stays : NoAttr K (CA 3) "stays"
section
variable {P : Program} {w : World} {K : PySem.W.Frag} {CA : Cd} {mg : Str → Option Value} {base : Heap} {f : Addr} {fd : FuncData}
theorem sc_is_whole : FnScope ["value"] ["value"] (defScope s_is_whole) := ⟨rfl, rfl, rfl, by decide +kernel, rfl, by decide +kernel, by decide +kernel⟩
theorem ok_is_whole (Z : Fx K CA mg) (F : FunD K "is_whole" "is_whole" (defArgs s_is_whole) (defBody s_is_whole) (defScope s_is_whole) [] [] f fd) : FnOk P w K mg base CX0 1 f fd ["value"] (spOf ⟨K, CA⟩ m_is_whole) :=
  def_ok F sc_is_whole rfl rfl fun cdv A outer s H E hr => ⟨_, sss_one (ss_ret (se_and (k_isi K rfl (t := 2) (by decide) (by decide) Z.b_isinstance Z.b_int boot_int (se_var (pv 0))) (se_one (se_not (k_isi K rfl (t := 1) (by decide) (by decide) Z.b_isinstance Z.b_bool boot_bool (se_var (pv 0)))))))⟩
theorem sc_is_word : FnScope ["value"] ["value"] (defScope s_is_word) := ⟨rfl, rfl, rfl, by decide +kernel, rfl, by decide +kernel, by decide +kernel⟩
theorem ok_is_word (Z : Fx K CA mg) (F : FunD K "is_word" "is_word" (defArgs s_is_word) (defBody s_is_word) (defScope s_is_word) [] [] f fd) (c_is_whole : Cal P w K CA mg base "is_whole" 1 m_is_whole [] []) : FnOk P w K mg base CX0 2 f fd ["value"] (spOf ⟨K, CA⟩ m_is_word) :=
  def_ok F sc_is_word rfl rfl fun cdv A outer s H E hr => ⟨_, sss_one (ss_ret (se_and (k_call K rfl c_is_whole hr (sa_cons (se_var (pv 0)) (sa_nil))) (se_one (se_chn o_le o_lt (se_neg ((se_const Z.g_HALF fun _ => rfl))) (se_var (pv 0)) ((se_const Z.g_HALF fun _ => rfl))))))⟩
theorem sc_is_name : FnScope ["value", "sign"] ["value"] (defScope s_is_name) := ⟨rfl, rfl, rfl, by decide +kernel, rfl, by decide +kernel, by decide +kernel⟩
theorem ok_is_name (Z : Fx K CA mg) (F : FunD K "is_name" "is_name" (defArgs s_is_name) (defBody s_is_name) (defScope s_is_name) [] [] f fd) : FnOk P w K mg base CX0 1 f fd ["value"] (spOf ⟨K, CA⟩ m_is_name) :=
  def_ok F sc_is_name rfl rfl fun cdv A outer s H E hr => ⟨_, sss_one (ss_ret (se_and (k_isi K rfl (t := 3) (by decide) (by decide) Z.b_isinstance Z.b_str boot_str (se_var (pv 0))) (se_and (se_chn o_lt o_le (se_int) (se_cb (k_len K rfl) Z.b_len boot_len (sa_cons (se_var (pv 0)) (sa_nil))) (se_int)) (se_one (se_cb (k_all K rfl rfl) Z.b_all boot_all (sa_cons (se_lc rfl sc_is_name.nd (si_str (se_var (pv 0))) (blkOk_by (own := [("sign", 1)]) (by rfl)) rfl (fun _ _ _ _ _ => sh_nm (i := 1) sc_is_name.nd) (fun _ _ _ _ _ => sts_nil) (fun _ _ _ _ _ => se_cmp (k_in K rfl hr) (se_var (pv 1)) ((se_const Z.g_SMALL fun _ => rfl)))) (sa_nil)))))))⟩
theorem sc_look_at_proc : FnScope ["program", "one", "name", "params", "more", "code"] ["program", "one"] (defScope s_look_at_proc) := ⟨rfl, rfl, rfl, by decide +kernel, rfl, by decide +kernel, by decide +kernel⟩
theorem ok_look_at_proc (Z : Fx K CA mg) (F : FunD K "look_at_proc" "look_at_proc" (defArgs s_look_at_proc) (defBody s_look_at_proc) (defScope s_look_at_proc) [] [] f fd) (c_is_name : Cal P w K CA mg base "is_name" 1 m_is_name [] []) (c_is_whole : Cal P w K CA mg base "is_whole" 1 m_is_whole [] []) : FnOk P w K mg base CX0 2 f fd ["program", "one"] (spOf ⟨K, CA⟩ m_look_at_proc) :=
  def_ok F sc_look_at_proc rfl rfl fun cdv A outer s H E hr => ⟨_, sss_cons (ss_if (SW.st (sw_or (st_not (st_val (k_isi K rfl (t := 5) (by decide) (by decide) Z.b_isinstance Z.b_tuple boot_tuple (se_var (pv 1))))) (sw_or (st_cmp (k_ne K rfl hr) (se_cb (k_len K rfl) Z.b_len boot_len (sa_cons (se_var (pv 1)) (sa_nil))) (se_int)) (sw_or1 (st_not (st_val (k_call K rfl c_is_name hr (sa_cons (k_ix K rfl hr (se_var (pv 1)) (se_int)) (sa_nil))))))))) (sss_no) (sss_nil)) (sss_cons (ss_asg (se_var (pv 1)) (k_htup K rfl rfl (shs_cons (sh_nm (i := 2) sc_look_at_proc.nd) (shs_cons (sh_nm (i := 3) sc_look_at_proc.nd) (shs_cons (sh_nm (i := 4) sc_look_at_proc.nd) (shs_cons (sh_nm (i := 5) sc_look_at_proc.nd) (shs_nil))))))) (sss_cons (ss_if (st_cmp (k_in K rfl hr) (se_var (pv 2)) (k_fld K rfl Z.c0 Z.na0_by (se_var (pv 0)))) (sss_no) (sss_nil)) (sss_cons (ss_if (SW.st (sw_or (st_not (st_val (k_call K rfl c_is_whole hr (sa_cons (se_var (pv 3)) (sa_nil))))) (sw_or1 (st_not (st_chn o_le o_le (se_int) (se_var (pv 3)) ((se_const Z.g_MOST_PARAMS fun _ => rfl))))))) (sss_no) (sss_nil)) (sss_cons (ss_if (SW.st (sw_or (st_not (st_val (k_call K rfl c_is_whole hr (sa_cons (se_var (pv 4)) (sa_nil))))) (sw_or1 (st_not (st_chn o_le o_le (se_int) (se_var (pv 4)) (se_op o_sub ((se_const Z.g_MOST_LOCALS fun _ => rfl)) (se_var (pv 3)))))))) (sss_no) (sss_nil)) (sss_one (ss_if (SW.st (sw_or (st_not (st_val (k_isi K rfl (t := 5) (by decide) (by decide) Z.b_isinstance Z.b_tuple boot_tuple (se_var (pv 5))))) (sw_or1 (st_not (st_chn o_lt o_le (se_int) (se_cb (k_len K rfl) Z.b_len boot_len (sa_cons (se_var (pv 5)) (sa_nil))) ((se_const Z.g_MOST_CODE fun _ => rfl))))))) (sss_no) (sss_nil)))))))⟩
theorem sc_is_place : FnScope ["proc", "value"] ["proc", "value"] (defScope s_is_place) := ⟨rfl, rfl, rfl, by decide +kernel, rfl, by decide +kernel, by decide +kernel⟩
theorem ok_is_place (Z : Fx K CA mg) (F : FunD K "is_place" "is_place" (defArgs s_is_place) (defBody s_is_place) (defScope s_is_place) [] [] f fd) (c_is_whole : Cal P w K CA mg base "is_whole" 1 m_is_whole [] []) : FnOk P w K mg base CX0 2 f fd ["proc", "value"] (spOf ⟨K, CA⟩ m_is_place) :=
  def_ok F sc_is_place rfl rfl fun cdv A outer s H E hr => ⟨_, sss_one (ss_ret (se_and (k_call K rfl c_is_whole hr (sa_cons (se_var (pv 1)) (sa_nil))) (se_one (se_chn o_le o_lt (se_int) (se_var (pv 1)) (se_cb (k_len K rfl) Z.b_len boot_len (sa_cons (k_ix K rfl hr (se_var (pv 0)) (se_int)) (sa_nil)))))))⟩
theorem sc_is_instruction : FnScope ["program", "proc", "value", "word", "rest"] ["program", "proc", "value"] (defScope s_is_instruction) := ⟨rfl, rfl, rfl, by decide +kernel, rfl, by decide +kernel, by decide +kernel⟩
theorem ok_is_instruction (Z : Fx K CA mg) (F : FunD K "is_instruction" "is_instruction" (defArgs s_is_instruction) (defBody s_is_instruction) (defScope s_is_instruction) [] [] f fd) (c_is_place : Cal P w K CA mg base "is_place" 2 m_is_place [] []) (c_is_word : Cal P w K CA mg base "is_word" 2 m_is_word [] []) (c_is_whole : Cal P w K CA mg base "is_whole" 1 m_is_whole [] []) (c_is_name : Cal P w K CA mg base "is_name" 1 m_is_name [] []) : FnOk P w K mg base CX0 3 f fd ["program", "proc", "value"] (spOf ⟨K, CA⟩ m_is_instruction) :=
  def_ok F sc_is_instruction rfl rfl fun cdv A outer s H E hr => ⟨_, sss_cons (ss_if (SW.st (sw_or (st_not (st_val (k_isi K rfl (t := 5) (by decide) (by decide) Z.b_isinstance Z.b_tuple boot_tuple (se_var (pv 2))))) (sw_or (st_cmp (k_eq K rfl hr) (se_cb (k_len K rfl) Z.b_len boot_len (sa_cons (se_var (pv 2)) (sa_nil))) (se_int)) (sw_or1 (st_not (st_val (k_isi K rfl (t := 3) (by decide) (by decide) Z.b_isinstance Z.b_str boot_str (k_ix K rfl hr (se_var (pv 2)) (se_int))))))))) (sss_one (ss_ret (se_bl))) (sss_nil)) (sss_cons (ss_par (sa_cons (k_ix K rfl hr (se_var (pv 2)) (se_int)) (sa_cons (k_slice K rfl (se_var (pv 2)) (sp_some (se_int)) (sp_none)) (sa_nil))) (fun h => ps_par (i := 3) (j := 4) rfl sc_is_instruction.nd rfl rfl (by decide) rfl rfl h (by rfl))) (sss_cons (ss_if (st_cmp (k_in K rfl hr) (se_var (pv 3)) ((se_kt Z.n_ALONE Z.t_ALONE rv_ALONE))) (sss_one (ss_ret (se_cmp (k_eq K rfl hr) (se_cb (k_len K rfl) Z.b_len boot_len (sa_cons (se_var (pv 4)) (sa_nil))) (se_int)))) (sss_nil)) (sss_cons (ss_if (st_cmp (k_eq K rfl hr) (se_var (pv 3)) (se_str)) (sss_one (ss_ret (se_and (se_cmp (k_eq K rfl hr) (se_cb (k_len K rfl) Z.b_len boot_len (sa_cons (se_var (pv 4)) (sa_nil))) (se_int)) (se_and (k_isi K rfl (t := 3) (by decide) (by decide) Z.b_isinstance Z.b_str boot_str (k_ix K rfl hr (se_var (pv 4)) (se_int))) (se_and (se_cmp (k_in K rfl hr) (k_ix K rfl hr (se_var (pv 4)) (se_int)) ((se_kt Z.n_CONDITIONS Z.t_CONDITIONS rv_CONDITIONS))) (se_one (k_call K rfl c_is_place hr (sa_cons (se_var (pv 1)) (sa_cons (k_ix K rfl hr (se_var (pv 4)) (se_int)) (sa_nil)))))))))) (sss_nil)) (sss_cons (ss_if (st_cmp (k_ne K rfl hr) (se_cb (k_len K rfl) Z.b_len boot_len (sa_cons (se_var (pv 4)) (sa_nil))) (se_int)) (sss_one (ss_ret (se_bl))) (sss_nil)) (sss_cons (ss_if (st_cmp (k_eq K rfl hr) (se_var (pv 3)) (se_str)) (sss_one (ss_ret (k_call K rfl c_is_word hr (sa_cons (k_ix K rfl hr (se_var (pv 4)) (se_int)) (sa_nil))))) (sss_nil)) (sss_cons (ss_if (st_cmp (k_in K rfl hr) (se_var (pv 3)) (se_tup (sa_cons (se_str) (sa_cons (se_str) (sa_nil))))) (sss_one (ss_ret (se_and (k_call K rfl c_is_whole hr (sa_cons (k_ix K rfl hr (se_var (pv 4)) (se_int)) (sa_nil))) (se_one (se_chn o_le o_lt (se_int) (k_ix K rfl hr (se_var (pv 4)) (se_int)) (se_op (k_add K rfl) (k_ix K rfl hr (se_var (pv 1)) (se_int)) (k_ix K rfl hr (se_var (pv 1)) (se_int)))))))) (sss_nil)) (sss_cons (ss_if (st_cmp (k_eq K rfl hr) (se_var (pv 3)) (se_str)) (sss_one (ss_ret (k_call K rfl c_is_place hr (sa_cons (se_var (pv 1)) (sa_cons (k_ix K rfl hr (se_var (pv 4)) (se_int)) (sa_nil)))))) (sss_nil)) (sss_cons (ss_if (st_cmp (k_in K rfl hr) (se_var (pv 3)) (se_tup (sa_cons (se_str) (sa_cons (se_str) (sa_cons (se_str) (sa_nil)))))) (sss_one (ss_ret (se_and (k_call K rfl c_is_whole hr (sa_cons (k_ix K rfl hr (se_var (pv 4)) (se_int)) (sa_nil))) (se_one (se_chn o_le o_lt (se_int) (k_ix K rfl hr (se_var (pv 4)) (se_int)) (se_cb (k_len K rfl) Z.b_len boot_len (sa_cons (k_fld K rfl Z.c0 Z.na0_cells (se_var (pv 0))) (sa_nil)))))))) (sss_nil)) (sss_cons (ss_if (st_cmp (k_in K rfl hr) (se_var (pv 3)) (se_tup (sa_cons (se_str) (sa_cons (se_str) (sa_nil))))) (sss_one (ss_ret (se_and (k_call K rfl c_is_whole hr (sa_cons (k_ix K rfl hr (se_var (pv 4)) (se_int)) (sa_nil))) (se_one (se_chn o_le o_lt (se_int) (k_ix K rfl hr (se_var (pv 4)) (se_int)) (k_fld K rfl Z.c0 Z.na0_locks (se_var (pv 0)))))))) (sss_nil)) (sss_one (ss_ret (se_and (se_cmp (k_in K rfl hr) (se_var (pv 3)) (se_tup (sa_cons (se_str) (sa_cons (se_str) (sa_nil))))) (se_and (k_call K rfl c_is_name hr (sa_cons (k_ix K rfl hr (se_var (pv 4)) (se_int)) (sa_nil))) (se_one (se_cmp (k_in K rfl hr) (k_ix K rfl hr (se_var (pv 4)) (se_int)) (k_fld K rfl Z.c0 Z.na0_by (se_var (pv 0))))))))))))))))))⟩
theorem sc_Program_init : FnScope ["self", "cells", "locks", "procs", "start", "one", "index", "op"] ["self", "cells", "locks", "procs", "start"] (defScope s_Program_init) := ⟨rfl, rfl, rfl, by decide +kernel, rfl, by decide +kernel, by decide +kernel⟩
theorem ok_Program_init (Z : Fx K CA mg) (F : FunD K "__init__" "Program.__init__" (defArgs s_Program_init) (defBody s_Program_init) (defScope s_Program_init) [] [] f fd) (c_is_word : Cal P w K CA mg base "is_word" 2 m_is_word [] []) (c_is_whole : Cal P w K CA mg base "is_whole" 1 m_is_whole [] []) (c_look_at_proc : Cal P w K CA mg base "look_at_proc" 2 m_look_at_proc [] []) (c_is_instruction : Cal P w K CA mg base "is_instruction" 3 m_is_instruction [] []) (c_is_name : Cal P w K CA mg base "is_name" 1 m_is_name [] []) : FnOk P w K mg base CX0 4 f fd ["self", "cells", "locks", "procs", "start"] (spOf ⟨K, CA⟩ m_Program_init) :=
  def_ok F sc_Program_init rfl rfl fun cdv A outer s H E hr => ⟨_, sss_cons (ss_if (SW.st (sw_or (st_not (st_val (k_isi K rfl (t := 5) (by decide) (by decide) Z.b_isinstance Z.b_tuple boot_tuple (se_var (pv 1))))) (sw_or (st_not (st_chn o_lt o_le (se_int) (se_cb (k_len K rfl) Z.b_len boot_len (sa_cons (se_var (pv 1)) (sa_nil))) ((se_const Z.g_MOST_CELLS fun _ => rfl)))) (sw_or1 (st_not (st_val (se_cb (k_all K rfl rfl) Z.b_all boot_all (sa_cons (se_lc rfl sc_Program_init.nd (k_seq K rfl (se_var (pv 1))) (blkOk_by (own := [("one", 5)]) (by rfl)) rfl (fun _ _ _ _ _ => sh_nm (i := 5) sc_Program_init.nd) (fun _ _ _ _ _ => sts_nil) (fun _ _ _ _ _ => k_call K rfl c_is_word hr (sa_cons (se_var (pv 5)) (sa_nil)))) (sa_nil))))))))) (sss_no) (sss_nil)) (sss_cons (ss_if (SW.st (sw_or (st_not (st_val (k_call K rfl c_is_whole hr (sa_cons (se_var (pv 2)) (sa_nil))))) (sw_or1 (st_not (st_chn o_le o_le (se_int) (se_var (pv 2)) ((se_const Z.g_MOST_LOCKS fun _ => rfl))))))) (sss_no) (sss_nil)) (sss_cons (ss_if (SW.st (sw_or (st_not (st_val (k_isi K rfl (t := 5) (by decide) (by decide) Z.b_isinstance Z.b_tuple boot_tuple (se_var (pv 3))))) (sw_or1 (st_not (st_chn o_lt o_le (se_int) (se_cb (k_len K rfl) Z.b_len boot_len (sa_cons (se_var (pv 3)) (sa_nil))) ((se_const Z.g_MOST_PROCS fun _ => rfl))))))) (sss_no) (sss_nil)) (sss_cons (ss_fld Z.c0 Z.na0_cells (se_var (pv 0)) (se_var (pv 1))) (sss_cons (ss_fld Z.c0 Z.na0_locks (se_var (pv 0)) (se_var (pv 2))) (sss_cons (ss_fld Z.c0 Z.na0_procs (se_var (pv 0)) (se_var (pv 3))) (sss_cons (ss_fld Z.c0 Z.na0_start (se_var (pv 0)) (se_var (pv 4))) (sss_cons (ss_fld Z.c0 Z.na0_by (se_var (pv 0)) (se_newK)) (sss_cons (ss_for .never rfl (k_seq K rfl (se_var (pv 3))) (sh_nm (i := 5) sc_Program_init.nd) (sss_cons (ss_expr (k_call K rfl c_look_at_proc hr (sa_cons (se_var (pv 0)) (sa_cons (se_var (pv 5)) (sa_nil))))) (sss_one (ss_asg (se_var (pv 5)) (sh_sub hr (k_fld K rfl Z.c0 Z.na0_by (se_var (pv 0))) (k_ix K rfl hr (se_var (pv 5)) (se_int))))))) (sss_cons (ss_for .never rfl (k_seq K rfl (se_var (pv 3))) (sh_nm (i := 5) sc_Program_init.nd) (sss_one (ss_for .never rfl (k_en K rfl Z.b_enumerate (sa_cons (k_ix K rfl hr (se_var (pv 5)) (se_int)) (sa_nil))) (k_htup K rfl rfl (shs_cons (sh_nm (i := 6) sc_Program_init.nd) (shs_cons (sh_nm (i := 7) sc_Program_init.nd) (shs_nil)))) (sss_one (ss_if (st_not (st_val (k_call K rfl c_is_instruction hr (sa_cons (se_var (pv 0)) (sa_cons (se_var (pv 5)) (sa_cons (se_var (pv 7)) (sa_nil))))))) (sss_no) (sss_nil)))))) (sss_one (ss_if (SW.st (sw_or (st_not (st_val (k_call K rfl c_is_name hr (sa_cons (se_var (pv 4)) (sa_nil))))) (sw_or (st_cmp (k_notIn K rfl hr) (se_var (pv 4)) (k_fld K rfl Z.c0 Z.na0_by (se_var (pv 0)))) (sw_or1 (st_cmp o_gt (k_ix K rfl hr (k_ix K rfl hr (k_fld K rfl Z.c0 Z.na0_by (se_var (pv 0))) (se_var (pv 4))) (se_int)) (se_int)))))) (sss_no) (sss_nil))))))))))))⟩
theorem sc_law_made : FnScope ["start", "work", "cells", "locks"] ["start", "work", "cells", "locks"] (defScope s_law_made) := ⟨rfl, rfl, rfl, by decide +kernel, rfl, by decide +kernel, by decide +kernel⟩
theorem ok_law_made (Z : Fx K CA mg) (F : FunD K "_law_made" "_law_made" (defArgs s_law_made) (defBody s_law_made) (defScope s_law_made) [] [] f fd) (c_Program_init : CalI P w K CA mg base 0 "Program" 4 m_Program_init [] []) : FnOk P w K mg base CX0 6 f fd ["start", "work", "cells", "locks"] (spOf ⟨K, CA⟩ m_law_made) :=
  def_ok F sc_law_made rfl rfl fun cdv A outer s H E hr => ⟨_, sss_one (ss_ret (k_make K rfl c_Program_init hr (sa_cons (se_var (pv 2)) (sa_cons (se_var (pv 3)) (sa_cons (se_tup (sa_cons (se_tup (sa_cons (se_str) (sa_cons (se_int) (sa_cons (se_int) (sa_cons (se_ct (k_tuple K rfl) Z.b_tuple boot_tuple (sa_cons (se_var (pv 0)) (sa_nil))) (sa_nil)))))) (sa_cons (se_tup (sa_cons (se_str) (sa_cons (se_int) (sa_cons (se_int) (sa_cons (se_ct (k_tuple K rfl) Z.b_tuple boot_tuple (sa_cons (se_var (pv 1)) (sa_nil))) (sa_nil)))))) (sa_nil)))) (sa_cons (se_str) (sa_nil)))))))⟩
theorem sc_law_same : FnScope ["actual", "expected", "k"] ["actual", "expected"] (defScope s_law_same) := ⟨rfl, rfl, rfl, by decide +kernel, rfl, by decide +kernel, by decide +kernel⟩
theorem ok_law_same (Z : Fx K CA mg) (F : FunD K "_law_same" "_law_same" (defArgs s_law_same) (defBody s_law_same) (defScope s_law_same) [] [] f fd) (hm : mg "_law_same" = some (.ref f)) (hk : PySem.W.keepIn K (.ref f) = true) (hb : Binds K fd ["actual", "expected"] []) : ∀ d, FnOk P w K mg base CX0 (d + 1) f fd ["actual", "expected"] (spOf ⟨K, CA⟩ (m_law_same d))
  | 0 => ⟨fun vs H Q E h => (by obtain ⟨ρ, us, m, u, m2, _, _, e, _⟩ := h; cases e), fun A outer s H args us vs Q E _ _ _ _ h => (by obtain ⟨ρ, us, m, u, m2, _, _, e, _⟩ := h; cases e)⟩
  | d + 1 => by
    have cr : Cal P w K CA mg base "_law_same" (d + 1) (m_law_same d) [] [] := ⟨f, fd, ["actual", "expected"], [], ok_law_same Z F hm hk hb d, hm, hk, hb, .nil, fun _ => .nil⟩
    exact def_ok F sc_law_same rfl rfl fun cdv A outer s H E hr => ⟨_, sss_cons (ss_if (SW.st (sw_or (st_val (k_isi K rfl (t := 5) (by decide) (by decide) Z.b_isinstance Z.b_tuple boot_tuple (se_var (pv 1)))) (sw_or1 (st_val (k_isi K rfl (t := 4) (by decide) (by decide) Z.b_isinstance Z.b_list boot_list (se_var (pv 1))))))) (sss_cons (ss_if (SW.st (sw_or (st_cmp (k_ne K rfl hr) (k_isi K rfl (t := 5) (by decide) (by decide) Z.b_isinstance Z.b_tuple boot_tuple (se_var (pv 1))) (k_isi K rfl (t := 5) (by decide) (by decide) Z.b_isinstance Z.b_tuple boot_tuple (se_var (pv 0)))) (sw_or1 (st_cmp (k_ne K rfl hr) (k_isi K rfl (t := 4) (by decide) (by decide) Z.b_isinstance Z.b_list boot_list (se_var (pv 1))) (k_isi K rfl (t := 4) (by decide) (by decide) Z.b_isinstance Z.b_list boot_list (se_var (pv 0))))))) (sss_one (ss_ret (se_bl))) (sss_nil)) (sss_cons (ss_if (st_cmp (k_ne K rfl hr) (se_cb (k_len K rfl) Z.b_len boot_len (sa_cons (se_var (pv 0)) (sa_nil))) (se_cb (k_len K rfl) Z.b_len boot_len (sa_cons (se_var (pv 1)) (sa_nil)))) (sss_one (ss_ret (se_bl))) (sss_nil)) (sss_one (ss_ret (se_cmp (k_eq K rfl hr) (se_cb (k_len K rfl) Z.b_len boot_len (sa_cons (se_lc rfl sc_law_same.nd (si_rng1 Z.b_range (sa_cons (se_cb (k_len K rfl) Z.b_len boot_len (sa_cons (se_var (pv 1)) (sa_nil))) (sa_nil))) (blkOk_by (own := [("k", 2)]) (by rfl)) rfl (fun _ _ _ _ _ => sh_nm (i := 2) sc_law_same.nd) (fun _ _ _ _ _ => sts_one (st_not (st_val (k_call K rfl cr hr (sa_cons (k_ix K rfl hr (se_var (pv 0)) (se_var (pv 2))) (sa_cons (k_ix K rfl hr (se_var (pv 1)) (se_var (pv 2))) (sa_nil))) (Nat.le_refl _))))) (fun _ _ _ _ _ => se_var (pv 2))) (sa_nil))) (se_int)))))) (sss_nil)) (sss_cons (ss_if (st_val (k_isi K rfl (t := 3) (by decide) (by decide) Z.b_isinstance Z.b_str boot_str (se_var (pv 1)))) (sss_one (ss_ret (se_and (k_isi K rfl (t := 3) (by decide) (by decide) Z.b_isinstance Z.b_str boot_str (se_var (pv 0))) (se_one (se_cmp (k_eq K rfl hr) (se_var (pv 0)) (se_var (pv 1))))))) (sss_nil)) (sss_cons (ss_if (st_cmp o_is (se_var (pv 1)) (se_non)) (sss_one (ss_ret (se_cmp o_is (se_var (pv 0)) (se_non)))) (sss_nil)) (sss_cons (ss_if (SW.st (sw_or (st_val (k_isi K rfl (t := 1) (by decide) (by decide) Z.b_isinstance Z.b_bool boot_bool (se_var (pv 1)))) (sw_or1 (st_val (k_isi K rfl (t := 1) (by decide) (by decide) Z.b_isinstance Z.b_bool boot_bool (se_var (pv 0))))))) (sss_one (ss_ret (se_and (k_isi K rfl (t := 1) (by decide) (by decide) Z.b_isinstance Z.b_bool boot_bool (se_var (pv 1))) (se_and (k_isi K rfl (t := 1) (by decide) (by decide) Z.b_isinstance Z.b_bool boot_bool (se_var (pv 0))) (se_one (se_cmp (k_eq K rfl hr) (se_var (pv 0)) (se_var (pv 1)))))))) (sss_nil)) (sss_one (ss_ret (se_and (k_isi K rfl (t := 2) (by decide) (by decide) Z.b_isinstance Z.b_int boot_int (se_var (pv 0))) (se_and (k_isi K rfl (t := 2) (by decide) (by decide) Z.b_isinstance Z.b_int boot_int (se_var (pv 1))) (se_one (se_cmp (k_eq K rfl hr) (se_var (pv 0)) (se_var (pv 1)))))))))))⟩
theorem sc_is_weaving : FnScope ["value", "one"] ["value"] (defScope s_is_weaving) := ⟨rfl, rfl, rfl, by decide +kernel, rfl, by decide +kernel, by decide +kernel⟩
theorem ok_is_weaving (Z : Fx K CA mg) (F : FunD K "is_weaving" "is_weaving" (defArgs s_is_weaving) (defBody s_is_weaving) (defScope s_is_weaving) [] [] f fd) (c_is_whole : Cal P w K CA mg base "is_whole" 1 m_is_whole [] []) : FnOk P w K mg base CX0 2 f fd ["value"] (spOf ⟨K, CA⟩ m_is_weaving) :=
  def_ok F sc_is_weaving rfl rfl fun cdv A outer s H E hr => ⟨_, sss_cons (ss_if (SW.st (sw_or (st_not (st_val (k_isi K rfl (t := 5) (by decide) (by decide) Z.b_isinstance Z.b_tuple boot_tuple (se_var (pv 0))))) (sw_or1 (st_cmp o_gt (se_cb (k_len K rfl) Z.b_len boot_len (sa_cons (se_var (pv 0)) (sa_nil))) ((se_const Z.g_MOST_STEPS fun _ => rfl)))))) (sss_one (ss_ret (se_bl))) (sss_nil)) (sss_one (ss_ret (se_cb (k_all K rfl rfl) Z.b_all boot_all (sa_cons (se_lc rfl sc_is_weaving.nd (k_seq K rfl (se_var (pv 0))) (blkOk_by (own := [("one", 1)]) (by rfl)) rfl (fun _ _ _ _ _ => sh_nm (i := 1) sc_is_weaving.nd) (fun _ _ _ _ _ => sts_nil) (fun _ _ _ _ _ => se_and (k_call K rfl c_is_whole hr (sa_cons (se_var (pv 1)) (sa_nil))) (se_one (se_chn o_le o_lt (se_int) (se_var (pv 1)) ((se_const Z.g_MOST_THREADS fun _ => rfl)))))) (sa_nil)))))⟩
theorem sc_look_at_weaving : FnScope ["value"] ["value"] (defScope s_look_at_weaving) := ⟨rfl, rfl, rfl, by decide +kernel, rfl, by decide +kernel, by decide +kernel⟩
theorem ok_look_at_weaving (Z : Fx K CA mg) (F : FunD K "look_at_weaving" "look_at_weaving" (defArgs s_look_at_weaving) (defBody s_look_at_weaving) (defScope s_look_at_weaving) [] [] f fd) (c_is_weaving : Cal P w K CA mg base "is_weaving" 2 m_is_weaving [] []) : FnOk P w K mg base CX0 3 f fd ["value"] (spOf ⟨K, CA⟩ m_look_at_weaving) :=
  def_ok F sc_look_at_weaving rfl rfl fun cdv A outer s H E hr => ⟨_, sss_one (ss_if (st_not (st_val (k_call K rfl c_is_weaving hr (sa_cons (se_var (pv 0)) (sa_nil))))) (sss_no) (sss_nil))⟩
theorem sc_look_at_program : FnScope ["value"] ["value"] (defScope s_look_at_program) := ⟨rfl, rfl, rfl, by decide +kernel, rfl, by decide +kernel, by decide +kernel⟩
theorem ok_look_at_program (Z : Fx K CA mg) (F : FunD K "look_at_program" "look_at_program" (defArgs s_look_at_program) (defBody s_look_at_program) (defScope s_look_at_program) [] [] f fd) : FnOk P w K mg base CX0 1 f fd ["value"] (spOf ⟨K, CA⟩ m_look_at_program) :=
  def_ok F sc_look_at_program rfl rfl fun cdv A outer s H E hr => ⟨_, sss_one (ss_if (st_not (st_val (se_isC Z.ic0 Z.b_isinstance Z.mg0 (se_var (pv 0))))) (sss_no) (sss_nil))⟩
theorem sc_Machine_begin : FnScope ["self", "name", "values", "proc"] ["self", "name", "values"] (defScope s_Machine_begin) := ⟨rfl, rfl, rfl, by decide +kernel, rfl, by decide +kernel, by decide +kernel⟩
theorem ok_Machine_begin (Z : Fx K CA mg) (F : FunD K "begin" "Machine.begin" (defArgs s_Machine_begin) (defBody s_Machine_begin) (defScope s_Machine_begin) [] [] f fd) : FnOk P w K mg base CX0 1 f fd ["self", "name", "values"] (spOf ⟨K, CA⟩ m_Machine_begin) :=
  def_ok F sc_Machine_begin rfl rfl fun cdv A outer s H E hr => ⟨_, sss_cons (ss_st (i := 3) sc_Machine_begin.nd (k_ix K rfl hr (k_fld K rfl Z.c0 Z.na0_by (k_fld K rfl Z.c1 Z.na1_program (se_var (pv 0)))) (se_var (pv 1)))) (sss_cons (ss_expr (k_lm K rfl PySem.F.plainAttrs_list PySem.F.slot_list_append PySem.F.type_list_append m_append (k_fld K rfl Z.c1 Z.na1_threads (se_var (pv 0))) (sa_cons (se_lst (sa_cons (se_lst (sa_cons (se_lst (sa_cons (se_var (pv 1)) (sa_cons (se_int) (sa_cons (se_op (k_add K rfl) (se_var (pv 2)) (se_op (k_mul K rfl) (se_lst (sa_cons (se_int) (sa_nil))) (k_ix K rfl hr (se_var (pv 3)) (se_int)))) (sa_cons (se_lst (sa_nil)) (sa_nil)))))) (sa_nil))) (sa_cons (se_non) (sa_nil)))) (sa_nil)))) (sss_one (ss_ret (se_op o_sub (se_cb (k_len K rfl) Z.b_len boot_len (sa_cons (k_fld K rfl Z.c1 Z.na1_threads (se_var (pv 0))) (sa_nil))) (se_int)))))⟩
theorem sc_Machine_init : FnScope ["self", "program", "inputs", "one"] ["self", "program", "inputs"] (defScope s_Machine_init) := ⟨rfl, rfl, rfl, by decide +kernel, rfl, by decide +kernel, by decide +kernel⟩
theorem ok_Machine_init (Z : Fx K CA mg) (F : FunD K "__init__" "Machine.__init__" (defArgs s_Machine_init) (defBody s_Machine_init) (defScope s_Machine_init) [] [] f fd) (c_look_at_program : Cal P w K CA mg base "look_at_program" 1 m_look_at_program [] []) (c_is_word : Cal P w K CA mg base "is_word" 2 m_is_word [] []) (c_Machine_begin : CalM P w K CA mg base 1 "begin" 1 m_Machine_begin [] []) : FnOk P w K mg base CX0 3 f fd ["self", "program", "inputs"] (spOf ⟨K, CA⟩ m_Machine_init) :=
  def_ok F sc_Machine_init rfl rfl fun cdv A outer s H E hr => ⟨_, sss_cons (ss_expr (k_call K rfl c_look_at_program hr (sa_cons (se_var (pv 1)) (sa_nil)))) (sss_cons (ss_if (SW.st (sw_or (st_not (st_val (k_isi K rfl (t := 5) (by decide) (by decide) Z.b_isinstance Z.b_tuple boot_tuple (se_var (pv 2))))) (sw_or1 (st_not (st_val (se_cb (k_all K rfl rfl) Z.b_all boot_all (sa_cons (se_lc rfl sc_Machine_init.nd (k_seq K rfl (se_var (pv 2))) (blkOk_by (own := [("one", 3)]) (by rfl)) rfl (fun _ _ _ _ _ => sh_nm (i := 3) sc_Machine_init.nd) (fun _ _ _ _ _ => sts_nil) (fun _ _ _ _ _ => k_call K rfl c_is_word hr (sa_cons (se_var (pv 3)) (sa_nil)))) (sa_nil)))))))) (sss_no) (sss_nil)) (sss_cons (ss_fld Z.c1 Z.na1_program (se_var (pv 0)) (se_var (pv 1))) (sss_cons (ss_fld Z.c1 Z.na1_inputs (se_var (pv 0)) (se_var (pv 2))) (sss_cons (ss_fld Z.c1 Z.na1_threads (se_var (pv 0)) (se_lst (sa_nil))) (sss_cons (ss_fld Z.c1 Z.na1_cells (se_var (pv 0)) (se_ct (k_list K rfl) Z.b_list boot_list (sa_cons (k_fld K rfl Z.c0 Z.na0_cells (se_var (pv 1))) (sa_nil)))) (sss_cons (ss_fld Z.c1 Z.na1_owners (se_var (pv 0)) (se_op (k_mul K rfl) (se_lst (sa_cons (se_non) (sa_nil))) (k_fld K rfl Z.c0 Z.na0_locks (se_var (pv 1))))) (sss_cons (ss_fld Z.c1 Z.na1_asked (se_var (pv 0)) (se_int)) (sss_cons (ss_fld Z.c1 Z.na1_said (se_var (pv 0)) (se_lst (sa_nil))) (sss_cons (ss_fld Z.c1 Z.na1_steps (se_var (pv 0)) (se_int)) (sss_cons (ss_fld Z.c1 Z.na1_end (se_var (pv 0)) (se_non)) (sss_one (ss_expr (k_meth K rfl c_Machine_begin hr (se_var (pv 0)) (sa_cons (k_fld K rfl Z.c0 Z.na0_start (se_var (pv 1))) (sa_cons (se_lst (sa_nil)) (sa_nil))))))))))))))))⟩
theorem sc_Machine_next_one : FnScope ["self", "thread", "frames", "code"] ["self", "thread"] (defScope s_Machine_next_one) := ⟨rfl, rfl, rfl, by decide +kernel, rfl, by decide +kernel, by decide +kernel⟩
theorem ok_Machine_next_one (Z : Fx K CA mg) (F : FunD K "next_one" "Machine.next_one" (defArgs s_Machine_next_one) (defBody s_Machine_next_one) (defScope s_Machine_next_one) [] [] f fd) : FnOk P w K mg base CX0 1 f fd ["self", "thread"] (spOf ⟨K, CA⟩ m_Machine_next_one) :=
  def_ok F sc_Machine_next_one rfl rfl fun cdv A outer s H E hr => ⟨_, sss_cons (ss_st (i := 2) sc_Machine_next_one.nd (k_ix K rfl hr (k_ix K rfl hr (k_fld K rfl Z.c1 Z.na1_threads (se_var (pv 0))) (se_var (pv 1))) (se_int))) (sss_cons (ss_if (st_cmp (k_eq K rfl hr) (se_cb (k_len K rfl) Z.b_len boot_len (sa_cons (se_var (pv 2)) (sa_nil))) (se_int)) (sss_one (ss_ret (se_non))) (sss_nil)) (sss_cons (ss_st (i := 3) sc_Machine_next_one.nd (k_ix K rfl hr (k_ix K rfl hr (k_fld K rfl Z.c0 Z.na0_by (k_fld K rfl Z.c1 Z.na1_program (se_var (pv 0)))) (k_ix K rfl hr (k_ix K rfl hr (se_var (pv 2)) (se_neg (se_int))) (se_int))) (se_int))) (sss_one (ss_ret (se_if (st_cmp o_lt (k_ix K rfl hr (k_ix K rfl hr (se_var (pv 2)) (se_neg (se_int))) (se_int)) (se_cb (k_len K rfl) Z.b_len boot_len (sa_cons (se_var (pv 3)) (sa_nil)))) (k_ix K rfl hr (se_var (pv 3)) (k_ix K rfl hr (k_ix K rfl hr (se_var (pv 2)) (se_neg (se_int))) (se_int))) (se_tup (sa_cons (se_str) (sa_nil))))))))⟩
theorem sc_Machine_is_other : FnScope ["self", "thread", "number"] ["self", "thread", "number"] (defScope s_Machine_is_other) := ⟨rfl, rfl, rfl, by decide +kernel, rfl, by decide +kernel, by decide +kernel⟩
theorem ok_Machine_is_other (Z : Fx K CA mg) (F : FunD K "is_other" "Machine.is_other" (defArgs s_Machine_is_other) (defBody s_Machine_is_other) (defScope s_Machine_is_other) [] [] f fd) : FnOk P w K mg base CX0 1 f fd ["self", "thread", "number"] (spOf ⟨K, CA⟩ m_Machine_is_other) :=
  def_ok F sc_Machine_is_other rfl rfl fun cdv A outer s H E hr => ⟨_, sss_one (ss_ret (se_and (se_chn o_le o_lt (se_int) (se_var (pv 2)) (se_cb (k_len K rfl) Z.b_len boot_len (sa_cons (k_fld K rfl Z.c1 Z.na1_threads (se_var (pv 0))) (sa_nil)))) (se_one (se_cmp (k_ne K rfl hr) (se_var (pv 2)) (se_var (pv 1))))))⟩
theorem sc_Machine_waits : FnScope ["self", "thread", "op", "stack"] ["self", "thread"] (defScope s_Machine_waits) := ⟨rfl, rfl, rfl, by decide +kernel, rfl, by decide +kernel, by decide +kernel⟩
theorem ok_Machine_waits (Z : Fx K CA mg) (F : FunD K "waits" "Machine.waits" (defArgs s_Machine_waits) (defBody s_Machine_waits) (defScope s_Machine_waits) [] [] f fd) (c_Machine_next_one : CalM P w K CA mg base 1 "next_one" 1 m_Machine_next_one [] []) (c_Machine_is_other : CalM P w K CA mg base 1 "is_other" 1 m_Machine_is_other [] []) : FnOk P w K mg base CX0 2 f fd ["self", "thread"] (spOf ⟨K, CA⟩ m_Machine_waits) :=
  def_ok F sc_Machine_waits rfl rfl fun cdv A outer s H E hr => ⟨_, sss_cons (ss_par (sa_cons (k_meth K rfl c_Machine_next_one hr (se_var (pv 0)) (sa_cons (se_var (pv 1)) (sa_nil))) (sa_cons (k_ix K rfl hr (k_ix K rfl hr (k_ix K rfl hr (k_ix K rfl hr (k_fld K rfl Z.c1 Z.na1_threads (se_var (pv 0))) (se_var (pv 1))) (se_int)) (se_neg (se_int))) (se_int)) (sa_nil))) (fun h => ps_par (i := 2) (j := 3) rfl sc_Machine_waits.nd rfl rfl (by decide) rfl rfl h (by rfl))) (sss_cons (ss_if (st_cmp (k_eq K rfl hr) (k_ix K rfl hr (se_var (pv 2)) (se_int)) (se_str)) (sss_one (ss_ret (se_cmp o_isnt (k_ix K rfl hr (k_fld K rfl Z.c1 Z.na1_owners (se_var (pv 0))) (k_ix K rfl hr (se_var (pv 2)) (se_int))) (se_non)))) (sss_nil)) (sss_cons (ss_if (SW.st (sw_and (st_cmp (k_eq K rfl hr) (k_ix K rfl hr (se_var (pv 2)) (se_int)) (se_str)) (sw_and (st_cmp o_gt (se_cb (k_len K rfl) Z.b_len boot_len (sa_cons (se_var (pv 3)) (sa_nil))) (se_int)) (sw_and1 (st_val (k_meth K rfl c_Machine_is_other hr (se_var (pv 0)) (sa_cons (se_var (pv 1)) (sa_cons (k_ix K rfl hr (se_var (pv 3)) (se_neg (se_int))) (sa_nil))))))))) (sss_one (ss_ret (se_cmp o_gt (se_cb (k_len K rfl) Z.b_len boot_len (sa_cons (k_ix K rfl hr (k_ix K rfl hr (k_fld K rfl Z.c1 Z.na1_threads (se_var (pv 0))) (k_ix K rfl hr (se_var (pv 3)) (se_neg (se_int)))) (se_int)) (sa_nil))) (se_int)))) (sss_nil)) (sss_one (ss_ret (se_bl)))))⟩
theorem sc_Machine_may_go : FnScope ["self", "at", "one"] ["self"] (defScope s_Machine_may_go) := ⟨rfl, rfl, rfl, by decide +kernel, rfl, by decide +kernel, by decide +kernel⟩
theorem ok_Machine_may_go (Z : Fx K CA mg) (F : FunD K "may_go" "Machine.may_go" (defArgs s_Machine_may_go) (defBody s_Machine_may_go) (defScope s_Machine_may_go) [] [] f fd) (c_Machine_waits : CalM P w K CA mg base 1 "waits" 2 m_Machine_waits [] []) : FnOk P w K mg base CX0 3 f fd ["self"] (spOf ⟨K, CA⟩ m_Machine_may_go) :=
  def_ok F sc_Machine_may_go rfl rfl fun cdv A outer s H E hr => ⟨_, sss_cons (ss_if (st_cmp o_isnt (k_fld K rfl Z.c1 Z.na1_end (se_var (pv 0))) (se_non)) (sss_one (ss_ret (se_tup (sa_nil)))) (sss_nil)) (sss_one (ss_ret (se_ct (k_tuple K rfl) Z.b_tuple boot_tuple (sa_cons (se_lc rfl sc_Machine_may_go.nd (k_en K rfl Z.b_enumerate (sa_cons (k_fld K rfl Z.c1 Z.na1_threads (se_var (pv 0))) (sa_nil))) (blkOk_by (own := [("at", 1), ("one", 2)]) (by rfl)) rfl (fun _ _ _ _ _ => k_htup K rfl rfl (shs_cons (sh_nm (i := 1) sc_Machine_may_go.nd) (shs_cons (sh_nm (i := 2) sc_Machine_may_go.nd) (shs_nil)))) (fun _ _ _ _ _ => sts_one (SW.st (sw_and (st_cmp o_gt (se_cb (k_len K rfl) Z.b_len boot_len (sa_cons (k_ix K rfl hr (se_var (pv 2)) (se_int)) (sa_nil))) (se_int)) (sw_and1 (st_not (st_val (k_meth K rfl c_Machine_waits hr (se_var (pv 0)) (sa_cons (se_var (pv 1)) (sa_nil))))))))) (fun _ _ _ _ _ => se_var (pv 1))) (sa_nil)))))⟩
theorem sc_touches_of : FnScope ["machine", "thread", "frame", "word", "op", "stack"] ["machine", "thread"] (defScope s_touches_of) := ⟨rfl, rfl, rfl, by decide +kernel, rfl, by decide +kernel, by decide +kernel⟩
theorem ok_touches_of (Z : Fx K CA mg) (F : FunD K "touches_of" "touches_of" (defArgs s_touches_of) (defBody s_touches_of) (defScope s_touches_of) [] [] f fd) (c_Machine_next_one : CalM P w K CA mg base 1 "next_one" 1 m_Machine_next_one [] []) : FnOk P w K mg base CX0 2 f fd ["machine", "thread"] (spOf ⟨K, CA⟩ m_touches_of) :=
  def_ok F sc_touches_of rfl rfl fun cdv A outer s H E hr => ⟨_, sss_cons (ss_st (i := 2) sc_touches_of.nd (k_ix K rfl hr (k_ix K rfl hr (k_ix K rfl hr (k_fld K rfl Z.c1 Z.na1_threads (se_var (pv 0))) (se_var (pv 1))) (se_int)) (se_neg (se_int)))) (sss_cons (ss_par (sa_cons (k_meth K rfl c_Machine_next_one hr (se_var (pv 0)) (sa_cons (se_var (pv 1)) (sa_nil))) (sa_cons (k_ix K rfl hr (se_var (pv 2)) (se_int)) (sa_nil))) (fun h => ps_par (i := 4) (j := 5) rfl sc_touches_of.nd rfl rfl (by decide) rfl rfl h (by rfl))) (sss_cons (ss_st (i := 3) sc_touches_of.nd (k_ix K rfl hr (se_var (pv 4)) (se_int))) (sss_cons (ss_if (st_cmp (k_eq K rfl hr) (se_var (pv 3)) (se_str)) (sss_one (ss_ret (se_tup (sa_cons (se_tup (sa_cons (se_tup (sa_cons (se_str) (sa_cons (k_ix K rfl hr (se_var (pv 4)) (se_int)) (sa_nil)))) (sa_cons (se_str) (sa_nil)))) (sa_nil))))) (sss_nil)) (sss_cons (ss_if (st_cmp (k_eq K rfl hr) (se_var (pv 3)) (se_str)) (sss_one (ss_ret (se_tup (sa_cons (se_tup (sa_cons (se_tup (sa_cons (se_str) (sa_cons (k_ix K rfl hr (se_var (pv 4)) (se_int)) (sa_nil)))) (sa_cons (se_str) (sa_nil)))) (sa_nil))))) (sss_nil)) (sss_cons (ss_if (st_cmp (k_eq K rfl hr) (se_var (pv 3)) (se_str)) (sss_one (ss_ret (se_tup (sa_cons (se_tup (sa_cons (se_tup (sa_cons (se_str) (sa_cons (k_ix K rfl hr (se_var (pv 4)) (se_int)) (sa_nil)))) (sa_cons (se_str) (sa_nil)))) (sa_nil))))) (sss_nil)) (sss_cons (ss_if (SW.st (sw_and (st_cmp (k_eq K rfl hr) (se_var (pv 3)) (se_str)) (sw_and1 (st_cmp o_gt (se_cb (k_len K rfl) Z.b_len boot_len (sa_cons (se_var (pv 5)) (sa_nil))) (se_int))))) (sss_one (ss_ret (se_tup (sa_cons (se_tup (sa_cons (se_tup (sa_cons (se_str) (sa_cons (k_ix K rfl hr (se_var (pv 5)) (se_neg (se_int))) (sa_nil)))) (sa_cons (se_str) (sa_nil)))) (sa_nil))))) (sss_nil)) (sss_cons (ss_if (SW.st (sw_and (st_cmp (k_eq K rfl hr) (se_var (pv 3)) (se_str)) (sw_and1 (st_cmp o_gt (se_cb (k_len K rfl) Z.b_len boot_len (sa_cons (se_var (pv 5)) (sa_nil))) (se_int))))) (sss_one (ss_ret (se_tup (sa_cons (se_tup (sa_cons (se_tup (sa_cons (se_str) (sa_cons (k_ix K rfl hr (se_var (pv 5)) (se_neg (se_int))) (sa_nil)))) (sa_cons (se_str) (sa_nil)))) (sa_nil))))) (sss_nil)) (sss_cons (ss_if (st_cmp (k_in K rfl hr) (se_var (pv 3)) (se_tup (sa_cons (se_str) (sa_cons (se_str) (sa_nil))))) (sss_one (ss_ret (se_tup (sa_cons (se_tup (sa_cons (se_tup (sa_cons (se_str) (sa_cons (k_ix K rfl hr (se_var (pv 4)) (se_int)) (sa_nil)))) (sa_cons (se_str) (sa_nil)))) (sa_nil))))) (sss_nil)) (sss_cons (ss_if (st_cmp (k_eq K rfl hr) (se_var (pv 3)) (se_str)) (sss_one (ss_ret (se_tup (sa_cons (se_tup (sa_cons (se_tup (sa_cons (se_str) (sa_nil))) (sa_cons (se_str) (sa_nil)))) (sa_nil))))) (sss_nil)) (sss_cons (ss_if (st_cmp (k_eq K rfl hr) (se_var (pv 3)) (se_str)) (sss_one (ss_ret (se_tup (sa_cons (se_tup (sa_cons (se_tup (sa_cons (se_str) (sa_nil))) (sa_cons (se_str) (sa_nil)))) (sa_nil))))) (sss_nil)) (sss_cons (ss_if (st_cmp (k_eq K rfl hr) (se_var (pv 3)) (se_str)) (sss_one (ss_ret (se_tup (sa_cons (se_tup (sa_cons (se_tup (sa_cons (se_str) (sa_nil))) (sa_cons (se_str) (sa_nil)))) (sa_cons (se_tup (sa_cons (se_tup (sa_cons (se_str) (sa_cons (se_cb (k_len K rfl) Z.b_len boot_len (sa_cons (k_fld K rfl Z.c1 Z.na1_threads (se_var (pv 0))) (sa_nil))) (sa_nil)))) (sa_cons (se_str) (sa_nil)))) (sa_nil)))))) (sss_nil)) (sss_cons (ss_if (SW.st (sw_and (st_cmp (k_eq K rfl hr) (se_var (pv 3)) (se_str)) (sw_and1 (st_cmp (k_eq K rfl hr) (se_cb (k_len K rfl) Z.b_len boot_len (sa_cons (k_ix K rfl hr (k_ix K rfl hr (k_fld K rfl Z.c1 Z.na1_threads (se_var (pv 0))) (se_var (pv 1))) (se_int)) (sa_nil))) (se_int))))) (sss_one (ss_ret (se_tup (sa_cons (se_tup (sa_cons (se_tup (sa_cons (se_str) (sa_cons (se_var (pv 1)) (sa_nil)))) (sa_cons (se_str) (sa_nil)))) (sa_nil))))) (sss_nil)) (sss_one (ss_ret (se_if (SW.st (sw_and (st_cmp (k_eq K rfl hr) (se_var (pv 3)) (se_str)) (sw_and1 (st_cmp o_gt (se_cb (k_len K rfl) Z.b_len boot_len (sa_cons (se_var (pv 5)) (sa_nil))) (se_int))))) (se_tup (sa_cons (se_tup (sa_cons (se_tup (sa_cons (se_str) (sa_cons (k_ix K rfl hr (se_var (pv 5)) (se_neg (se_int))) (sa_nil)))) (sa_cons (se_str) (sa_nil)))) (sa_nil))) (se_tup (sa_nil)))))))))))))))))⟩
theorem sc_needs : FnScope ["program", "op", "word"] ["program", "op"] (defScope s_needs) := ⟨rfl, rfl, rfl, by decide +kernel, rfl, by decide +kernel, by decide +kernel⟩
theorem ok_needs (Z : Fx K CA mg) (F : FunD K "needs" "needs" (defArgs s_needs) (defBody s_needs) (defScope s_needs) [] [] f fd) : FnOk P w K mg base CX0 1 f fd ["program", "op"] (spOf ⟨K, CA⟩ m_needs) :=
  def_ok F sc_needs rfl rfl fun cdv A outer s H E hr => ⟨_, sss_cons (ss_st (i := 2) sc_needs.nd (k_ix K rfl hr (se_var (pv 1)) (se_int))) (sss_cons (ss_if (SW.st (sw_or (st_cmp (k_in K rfl hr) (se_var (pv 2)) ((se_kt Z.n_WORKS Z.t_WORKS rv_WORKS))) (sw_or1 (st_cmp (k_in K rfl hr) (se_var (pv 2)) (se_tup (sa_cons (se_str) (sa_cons (se_str) (sa_nil)))))))) (sss_one (ss_ret (se_int))) (sss_nil)) (sss_cons (ss_if (st_cmp (k_in K rfl hr) (se_var (pv 2)) (se_tup (sa_cons (se_str) (sa_cons (se_str) (sa_cons (se_str) (sa_cons (se_str) (sa_cons (se_str) (sa_cons (se_str) (sa_cons (se_str) (sa_cons (se_str) (sa_cons (se_str) (sa_cons (se_str) (sa_nil))))))))))))) (sss_one (ss_ret (se_int))) (sss_nil)) (sss_one (ss_ret (se_if (st_cmp (k_in K rfl hr) (se_var (pv 2)) (se_tup (sa_cons (se_str) (sa_cons (se_str) (sa_nil))))) (k_ix K rfl hr (k_ix K rfl hr (k_fld K rfl Z.c0 Z.na0_by (se_var (pv 0))) (k_ix K rfl hr (se_var (pv 1)) (se_int))) (se_int)) (se_int))))))⟩
theorem sc_Machine_pass_on : FnScope ["self", "thread", "frame", "op", "many", "word", "stack", "frames", "value", "values"] ["self", "thread", "frame", "op"] (defScope s_Machine_pass_on) := ⟨rfl, rfl, rfl, by decide +kernel, rfl, by decide +kernel, by decide +kernel⟩
theorem ok_Machine_pass_on (Z : Fx K CA mg) (F : FunD K "pass_on" "Machine.pass_on" (defArgs s_Machine_pass_on) (defBody s_Machine_pass_on) (defScope s_Machine_pass_on) [] [] f fd) (c_Machine_is_other : CalM P w K CA mg base 1 "is_other" 1 m_Machine_is_other [] []) (c_Machine_begin : CalM P w K CA mg base 1 "begin" 1 m_Machine_begin [] []) : FnOk P w K mg base CX0 2 f fd ["self", "thread", "frame", "op"] (spOf ⟨K, CA⟩ m_Machine_pass_on) :=
  def_ok F sc_Machine_pass_on rfl rfl fun cdv A outer s H E hr => ⟨_, sss_cons (ss_par3 (sa_cons (k_ix K rfl hr (se_var (pv 3)) (se_int)) (sa_cons (k_ix K rfl hr (se_var (pv 2)) (se_int)) (sa_cons (k_ix K rfl hr (k_ix K rfl hr (k_fld K rfl Z.c1 Z.na1_threads (se_var (pv 0))) (se_var (pv 1))) (se_int)) (sa_nil)))) (fun h => ps_par3 (i := 5) (j := 6) (l := 7) rfl sc_Machine_pass_on.nd rfl rfl rfl (by decide) (by decide) (by decide) rfl rfl rfl h (by rfl))) (sss_cons (ss_if (st_cmp (k_eq K rfl hr) (se_var (pv 5)) (se_str)) (sss_cons (ss_st (i := 8) sc_Machine_pass_on.nd (k_lm0 K rfl PySem.F.plainAttrs_list PySem.F.slot_list_pop PySem.F.type_list_pop m_pop (se_var (pv 6)))) (sss_cons (ss_expr (k_lm0 K rfl PySem.F.plainAttrs_list PySem.F.slot_list_pop PySem.F.type_list_pop m_pop (se_var (pv 7)))) (sss_cons (ss_if (st_cmp (k_eq K rfl hr) (se_cb (k_len K rfl) Z.b_len boot_len (sa_cons (se_var (pv 7)) (sa_nil))) (se_int)) (sss_one (ss_asg (se_var (pv 8)) (sh_sub hr (k_ix K rfl hr (k_fld K rfl Z.c1 Z.na1_threads (se_var (pv 0))) (se_var (pv 1))) (se_int)))) (sss_cons (ss_expr (k_lm K rfl PySem.F.plainAttrs_list PySem.F.slot_list_append PySem.F.type_list_append m_append (k_ix K rfl hr (k_ix K rfl hr (se_var (pv 7)) (se_neg (se_int))) (se_int)) (sa_cons (se_var (pv 8)) (sa_nil)))) (sss_one (ss_augS hr (k_ix K rfl hr (se_var (pv 7)) (se_neg (se_int))) (se_int) (se_int) ip_add so_addI)))) (sss_one (ss_ret (se_non)))))) (sss_nil)) (sss_cons (ss_if (st_cmp (k_eq K rfl hr) (se_var (pv 5)) (se_str)) (sss_cons (ss_if (st_not (st_val (k_meth K rfl c_Machine_is_other hr (se_var (pv 0)) (sa_cons (se_var (pv 1)) (sa_cons (k_ix K rfl hr (se_var (pv 6)) (se_neg (se_int))) (sa_nil)))))) (sss_one (ss_ret ((se_const Z.g_THREAD fun _ => rfl)))) (sss_nil)) (sss_cons (ss_expr (k_lm K rfl PySem.F.plainAttrs_list PySem.F.slot_list_append PySem.F.type_list_append m_append (se_var (pv 6)) (sa_cons (k_ix K rfl hr (k_ix K rfl hr (k_fld K rfl Z.c1 Z.na1_threads (se_var (pv 0))) (k_lm0 K rfl PySem.F.plainAttrs_list PySem.F.slot_list_pop PySem.F.type_list_pop m_pop (se_var (pv 6)))) (se_int)) (sa_nil)))) (sss_cons (ss_augS hr (se_var (pv 2)) (se_int) (se_int) ip_add so_addI) (sss_one (ss_ret (se_non)))))) (sss_nil)) (sss_cons (ss_if (SW.st (sw_and (st_cmp (k_eq K rfl hr) (se_var (pv 5)) (se_str)) (sw_and1 (st_cmp (k_eq K rfl hr) (se_cb (k_len K rfl) Z.b_len boot_len (sa_cons (se_var (pv 7)) (sa_nil))) ((se_const Z.g_MOST_FRAMES fun _ => rfl)))))) (sss_one (ss_ret ((se_const Z.g_DEEP fun _ => rfl)))) (sss_nil)) (sss_cons (ss_if (SW.st (sw_and (st_cmp (k_eq K rfl hr) (se_var (pv 5)) (se_str)) (sw_and1 (st_cmp (k_eq K rfl hr) (se_cb (k_len K rfl) Z.b_len boot_len (sa_cons (k_fld K rfl Z.c1 Z.na1_threads (se_var (pv 0))) (sa_nil))) ((se_const Z.g_MOST_THREADS fun _ => rfl)))))) (sss_one (ss_ret ((se_const Z.g_MANY fun _ => rfl)))) (sss_nil)) (sss_cons (ss_st (i := 4) sc_Machine_pass_on.nd (se_op o_sub (se_cb (k_len K rfl) Z.b_len boot_len (sa_cons (se_var (pv 6)) (sa_nil))) (k_ix K rfl hr (k_ix K rfl hr (k_fld K rfl Z.c0 Z.na0_by (k_fld K rfl Z.c1 Z.na1_program (se_var (pv 0)))) (k_ix K rfl hr (se_var (pv 3)) (se_int))) (se_int)))) (sss_cons (ss_asg (se_tup (sa_cons (k_slice K rfl (se_var (pv 6)) (sp_some (se_var (pv 4))) (sp_none)) (sa_cons (k_slice K rfl (se_var (pv 6)) (sp_none) (sp_some (se_var (pv 4)))) (sa_nil)))) (k_htup K rfl rfl (shs_cons (sh_nm (i := 9) sc_Machine_pass_on.nd) (shs_cons (sh_sub hr (se_var (pv 2)) (se_int)) (shs_nil))))) (sss_cons (ss_if (st_cmp (k_eq K rfl hr) (se_var (pv 5)) (se_str)) (sss_one (ss_expr (k_lm K rfl PySem.F.plainAttrs_list PySem.F.slot_list_append PySem.F.type_list_append m_append (se_var (pv 7)) (sa_cons (se_lst (sa_cons (k_ix K rfl hr (se_var (pv 3)) (se_int)) (sa_cons (se_int) (sa_cons (se_op (k_add K rfl) (se_var (pv 9)) (se_op (k_mul K rfl) (se_lst (sa_cons (se_int) (sa_nil))) (k_ix K rfl hr (k_ix K rfl hr (k_fld K rfl Z.c0 Z.na0_by (k_fld K rfl Z.c1 Z.na1_program (se_var (pv 0)))) (k_ix K rfl hr (se_var (pv 3)) (se_int))) (se_int)))) (sa_cons (se_lst (sa_nil)) (sa_nil)))))) (sa_nil))))) (sss_cons (ss_expr (k_lm K rfl PySem.F.plainAttrs_list PySem.F.slot_list_append PySem.F.type_list_append m_append (k_ix K rfl hr (se_var (pv 2)) (se_int)) (sa_cons (k_meth K rfl c_Machine_begin hr (se_var (pv 0)) (sa_cons (k_ix K rfl hr (se_var (pv 3)) (se_int)) (sa_cons (se_var (pv 9)) (sa_nil)))) (sa_nil)))) (sss_one (ss_augS hr (se_var (pv 2)) (se_int) (se_int) ip_add so_addI)))) (sss_one (ss_ret (se_non))))))))))⟩
theorem sc_Machine_cell : FnScope ["self", "frame", "op", "word", "stack", "at", "old"] ["self", "frame", "op"] (defScope s_Machine_cell) := ⟨rfl, rfl, rfl, by decide +kernel, rfl, by decide +kernel, by decide +kernel⟩
theorem ok_Machine_cell (Z : Fx K CA mg) (F : FunD K "cell" "Machine.cell" (defArgs s_Machine_cell) (defBody s_Machine_cell) (defScope s_Machine_cell) [] [] f fd) : FnOk P w K mg base CX0 1 f fd ["self", "frame", "op"] (spOf ⟨K, CA⟩ m_Machine_cell) :=
  def_ok F sc_Machine_cell rfl rfl fun cdv A outer s H E hr => ⟨_, sss_cons (ss_par (sa_cons (k_ix K rfl hr (se_var (pv 2)) (se_int)) (sa_cons (k_ix K rfl hr (se_var (pv 1)) (se_int)) (sa_nil))) (fun h => ps_par (i := 3) (j := 4) rfl sc_Machine_cell.nd rfl rfl (by decide) rfl rfl h (by rfl))) (sss_cons (ss_if (st_cmp (k_in K rfl hr) (se_var (pv 3)) (se_tup (sa_cons (se_str) (sa_cons (se_str) (sa_nil))))) (sss_cons (ss_st (i := 5) sc_Machine_cell.nd (se_if (st_cmp (k_eq K rfl hr) (se_var (pv 3)) (se_str)) (k_ix K rfl hr (se_var (pv 4)) (se_neg (se_int))) (k_ix K rfl hr (se_var (pv 4)) (se_neg (se_int))))) (sss_one (ss_if (st_not (st_chn o_le o_lt (se_int) (se_var (pv 5)) (se_cb (k_len K rfl) Z.b_len boot_len (sa_cons (k_fld K rfl Z.c1 Z.na1_cells (se_var (pv 0))) (sa_nil))))) (sss_one (ss_ret ((se_const Z.g_BOUNDS fun _ => rfl)))) (sss_nil)))) (sss_one (ss_st (i := 5) sc_Machine_cell.nd (k_ix K rfl hr (se_var (pv 2)) (se_int))))) (sss_cons (ss_if (st_cmp (k_eq K rfl hr) (se_var (pv 3)) (se_str)) (sss_one (ss_expr (k_lm K rfl PySem.F.plainAttrs_list PySem.F.slot_list_append PySem.F.type_list_append m_append (se_var (pv 4)) (sa_cons (k_ix K rfl hr (k_fld K rfl Z.c1 Z.na1_cells (se_var (pv 0))) (se_var (pv 5))) (sa_nil))))) (sss_one (ss_if (st_cmp (k_eq K rfl hr) (se_var (pv 3)) (se_str)) (sss_one (ss_asg (se_op (k_add K rfl) (k_slice K rfl (se_var (pv 4)) (sp_none) (sp_some (se_neg (se_int)))) (se_lst (sa_cons (k_ix K rfl hr (k_fld K rfl Z.c1 Z.na1_cells (se_var (pv 0))) (se_var (pv 5))) (sa_nil)))) (sh_sub hr (se_var (pv 1)) (se_int)))) (sss_one (ss_if (st_cmp (k_eq K rfl hr) (se_var (pv 3)) (se_str)) (sss_cons (ss_st (i := 6) sc_Machine_cell.nd (k_ix K rfl hr (k_fld K rfl Z.c1 Z.na1_cells (se_var (pv 0))) (se_var (pv 5)))) (sss_cons (ss_asg (k_lm0 K rfl PySem.F.plainAttrs_list PySem.F.slot_list_pop PySem.F.type_list_pop m_pop (se_var (pv 4))) (sh_sub hr (k_fld K rfl Z.c1 Z.na1_cells (se_var (pv 0))) (se_var (pv 5)))) (sss_one (ss_expr (k_lm K rfl PySem.F.plainAttrs_list PySem.F.slot_list_append PySem.F.type_list_append m_append (se_var (pv 4)) (sa_cons (se_var (pv 6)) (sa_nil))))))) (sss_cons (ss_asg (k_ix K rfl hr (se_var (pv 4)) (se_neg (se_int))) (sh_sub hr (k_fld K rfl Z.c1 Z.na1_cells (se_var (pv 0))) (se_var (pv 5)))) (sss_one (ss_asg (se_if (st_cmp (k_eq K rfl hr) (se_var (pv 3)) (se_str)) (k_slice K rfl (se_var (pv 4)) (sp_none) (sp_some (se_neg (se_int)))) (k_slice K rfl (se_var (pv 4)) (sp_none) (sp_some (se_neg (se_int))))) (sh_sub hr (se_var (pv 1)) (se_int)))))))))) (sss_cons (ss_augS hr (se_var (pv 1)) (se_int) (se_int) ip_add so_addI) (sss_one (ss_ret (se_non))))))⟩
theorem sc_Machine_shared : FnScope ["self", "thread", "frame", "op", "word"] ["self", "thread", "frame", "op"] (defScope s_Machine_shared) := ⟨rfl, rfl, rfl, by decide +kernel, rfl, by decide +kernel, by decide +kernel⟩
theorem ok_Machine_shared (Z : Fx K CA mg) (F : FunD K "shared" "Machine.shared" (defArgs s_Machine_shared) (defBody s_Machine_shared) (defScope s_Machine_shared) [] [] f fd) : FnOk P w K mg base CX0 1 f fd ["self", "thread", "frame", "op"] (spOf ⟨K, CA⟩ m_Machine_shared) :=
  def_ok F sc_Machine_shared rfl rfl fun cdv A outer s H E hr => ⟨_, sss_cons (ss_st (i := 4) sc_Machine_shared.nd (k_ix K rfl hr (se_var (pv 3)) (se_int))) (sss_cons (ss_if (st_cmp (k_eq K rfl hr) (se_var (pv 4)) (se_str)) (sss_one (ss_asg (se_var (pv 1)) (sh_sub hr (k_fld K rfl Z.c1 Z.na1_owners (se_var (pv 0))) (k_ix K rfl hr (se_var (pv 3)) (se_int))))) (sss_one (ss_if (st_cmp (k_eq K rfl hr) (se_var (pv 4)) (se_str)) (sss_cons (ss_if (st_cmp (k_ne K rfl hr) (k_ix K rfl hr (k_fld K rfl Z.c1 Z.na1_owners (se_var (pv 0))) (k_ix K rfl hr (se_var (pv 3)) (se_int))) (se_var (pv 1))) (sss_one (ss_ret ((se_const Z.g_OWNER fun _ => rfl)))) (sss_nil)) (sss_one (ss_asg (se_non) (sh_sub hr (k_fld K rfl Z.c1 Z.na1_owners (se_var (pv 0))) (k_ix K rfl hr (se_var (pv 3)) (se_int)))))) (sss_one (ss_if (st_cmp (k_eq K rfl hr) (se_var (pv 4)) (se_str)) (sss_one (ss_expr (k_lm K rfl PySem.F.plainAttrs_list PySem.F.slot_list_append PySem.F.type_list_append m_append (k_fld K rfl Z.c1 Z.na1_said (se_var (pv 0))) (sa_cons (se_tup (sa_cons (se_var (pv 1)) (sa_cons (k_lm0 K rfl PySem.F.plainAttrs_list PySem.F.slot_list_pop PySem.F.type_list_pop m_pop (k_ix K rfl hr (se_var (pv 2)) (se_int))) (sa_nil)))) (sa_nil))))) (sss_cons (ss_if (st_cmp (k_eq K rfl hr) (k_fld K rfl Z.c1 Z.na1_asked (se_var (pv 0))) (se_cb (k_len K rfl) Z.b_len boot_len (sa_cons (k_fld K rfl Z.c1 Z.na1_inputs (se_var (pv 0))) (sa_nil)))) (sss_one (ss_ret ((se_const Z.g_EMPTY fun _ => rfl)))) (sss_nil)) (sss_cons (ss_expr (k_lm K rfl PySem.F.plainAttrs_list PySem.F.slot_list_append PySem.F.type_list_append m_append (k_ix K rfl hr (se_var (pv 2)) (se_int)) (sa_cons (k_ix K rfl hr (k_fld K rfl Z.c1 Z.na1_inputs (se_var (pv 0))) (k_fld K rfl Z.c1 Z.na1_asked (se_var (pv 0)))) (sa_nil)))) (sss_one (ss_fldaug Z.c1 Z.na1_asked in_add so_addI (se_var (pv 0)) (se_int)))))))))) (sss_cons (ss_augS hr (se_var (pv 2)) (se_int) (se_int) ip_add so_addI) (sss_one (ss_ret (se_non)))))⟩
theorem sc_wrap : FnScope ["number"] ["number"] (defScope s_wrap) := ⟨rfl, rfl, rfl, by decide +kernel, rfl, by decide +kernel, by decide +kernel⟩
theorem ok_wrap (Z : Fx K CA mg) (F : FunD K "wrap" "wrap" (defArgs s_wrap) (defBody s_wrap) (defScope s_wrap) [] [] f fd) : FnOk P w K mg base CX0 1 f fd ["number"] (spOf ⟨K, CA⟩ m_wrap) :=
  def_ok F sc_wrap rfl rfl fun cdv A outer s H E hr => ⟨_, sss_one (ss_ret (se_op o_sub (se_op o_mod (se_op (k_add K rfl) (se_var (pv 0)) ((se_const Z.g_HALF fun _ => rfl))) ((se_const Z.g_WIDE fun _ => rfl))) ((se_const Z.g_HALF fun _ => rfl))))⟩
theorem sc_divided : FnScope ["name", "one", "two", "whole"] ["name", "one", "two"] (defScope s_divided) := ⟨rfl, rfl, rfl, by decide +kernel, rfl, by decide +kernel, by decide +kernel⟩
theorem ok_divided (Z : Fx K CA mg) (F : FunD K "divided" "divided" (defArgs s_divided) (defBody s_divided) (defScope s_divided) [] [] f fd) (c_wrap : Cal P w K CA mg base "wrap" 1 m_wrap [] []) : FnOk P w K mg base CX0 2 f fd ["name", "one", "two"] (spOf ⟨K, CA⟩ m_divided) :=
  def_ok F sc_divided rfl rfl fun cdv A outer s H E hr => ⟨_, sss_cons (ss_if (st_cmp (k_eq K rfl hr) (se_var (pv 2)) (se_int)) (sss_one (ss_ret (se_non))) (sss_nil)) (sss_cons (ss_st (i := 3) sc_divided.nd (se_op o_div (se_cb c_abs Z.b_abs boot_abs (sa_cons (se_var (pv 1)) (sa_nil))) (se_cb c_abs Z.b_abs boot_abs (sa_cons (se_var (pv 2)) (sa_nil))))) (sss_cons (ss_st (i := 3) sc_divided.nd (se_if (st_cmp (k_eq K rfl hr) (se_cmp o_lt (se_var (pv 1)) (se_int)) (se_cmp o_lt (se_var (pv 2)) (se_int))) (se_var (pv 3)) (se_neg (se_var (pv 3))))) (sss_one (ss_ret (se_if (st_cmp (k_eq K rfl hr) (se_var (pv 0)) (se_str)) (k_call K rfl c_wrap hr (sa_cons (se_var (pv 3)) (sa_nil))) (k_call K rfl c_wrap hr (sa_cons (se_op o_sub (se_var (pv 1)) (se_op (k_mul K rfl) (se_var (pv 3)) (se_var (pv 2)))) (sa_nil))))))))⟩
theorem sc_worked : FnScope ["name", "one", "two"] ["name", "one", "two"] (defScope s_worked) := ⟨rfl, rfl, rfl, by decide +kernel, rfl, by decide +kernel, by decide +kernel⟩
theorem ok_worked (Z : Fx K CA mg) (F : FunD K "worked" "worked" (defArgs s_worked) (defBody s_worked) (defScope s_worked) [] [] f fd) (c_wrap : Cal P w K CA mg base "wrap" 1 m_wrap [] []) (c_divided : Cal P w K CA mg base "divided" 2 m_divided [] []) : FnOk P w K mg base CX0 3 f fd ["name", "one", "two"] (spOf ⟨K, CA⟩ m_worked) :=
  def_ok F sc_worked rfl rfl fun cdv A outer s H E hr => ⟨_, sss_cons (ss_if (st_cmp (k_eq K rfl hr) (se_var (pv 0)) (se_str)) (sss_one (ss_ret (k_call K rfl c_wrap hr (sa_cons (se_op (k_add K rfl) (se_var (pv 1)) (se_var (pv 2))) (sa_nil))))) (sss_nil)) (sss_cons (ss_if (st_cmp (k_eq K rfl hr) (se_var (pv 0)) (se_str)) (sss_one (ss_ret (k_call K rfl c_wrap hr (sa_cons (se_op o_sub (se_var (pv 1)) (se_var (pv 2))) (sa_nil))))) (sss_nil)) (sss_cons (ss_if (st_cmp (k_eq K rfl hr) (se_var (pv 0)) (se_str)) (sss_one (ss_ret (k_call K rfl c_wrap hr (sa_cons (se_op (k_mul K rfl) (se_var (pv 1)) (se_var (pv 2))) (sa_nil))))) (sss_nil)) (sss_cons (ss_if (st_cmp (k_in K rfl hr) (se_var (pv 0)) (se_tup (sa_cons (se_str) (sa_cons (se_str) (sa_nil))))) (sss_one (ss_ret (k_call K rfl c_divided hr (sa_cons (se_var (pv 0)) (sa_cons (se_var (pv 1)) (sa_cons (se_var (pv 2)) (sa_nil))))))) (sss_nil)) (sss_cons (ss_if (st_cmp (k_eq K rfl hr) (se_var (pv 0)) (se_str)) (sss_one (ss_ret (k_call K rfl c_wrap hr (sa_cons (se_op o_and (se_op o_mod (se_var (pv 1)) ((se_const Z.g_WIDE fun _ => rfl))) (se_op o_mod (se_var (pv 2)) ((se_const Z.g_WIDE fun _ => rfl)))) (sa_nil))))) (sss_nil)) (sss_cons (ss_if (st_cmp (k_eq K rfl hr) (se_var (pv 0)) (se_str)) (sss_one (ss_ret (k_call K rfl c_wrap hr (sa_cons (se_op o_or (se_op o_mod (se_var (pv 1)) ((se_const Z.g_WIDE fun _ => rfl))) (se_op o_mod (se_var (pv 2)) ((se_const Z.g_WIDE fun _ => rfl)))) (sa_nil))))) (sss_nil)) (sss_cons (ss_if (st_cmp (k_eq K rfl hr) (se_var (pv 0)) (se_str)) (sss_one (ss_ret (k_call K rfl c_wrap hr (sa_cons (se_op o_xor (se_op o_mod (se_var (pv 1)) ((se_const Z.g_WIDE fun _ => rfl))) (se_op o_mod (se_var (pv 2)) ((se_const Z.g_WIDE fun _ => rfl)))) (sa_nil))))) (sss_nil)) (sss_no)))))))⟩
theorem sc_Machine_plain : FnScope ["self", "frame", "op", "word", "stack", "made"] ["self", "frame", "op"] (defScope s_Machine_plain) := ⟨rfl, rfl, rfl, by decide +kernel, rfl, by decide +kernel, by decide +kernel⟩
theorem ok_Machine_plain (Z : Fx K CA mg) (F : FunD K "plain" "Machine.plain" (defArgs s_Machine_plain) (defBody s_Machine_plain) (defScope s_Machine_plain) [] [] f fd) (c_worked : Cal P w K CA mg base "worked" 3 m_worked [] []) (c_wrap : Cal P w K CA mg base "wrap" 1 m_wrap [] []) : FnOk P w K mg base CX0 4 f fd ["self", "frame", "op"] (spOf ⟨K, CA⟩ m_Machine_plain) :=
  def_ok F sc_Machine_plain rfl rfl fun cdv A outer s H E hr => ⟨_, sss_cons (ss_par (sa_cons (k_ix K rfl hr (se_var (pv 2)) (se_int)) (sa_cons (k_ix K rfl hr (se_var (pv 1)) (se_int)) (sa_nil))) (fun h => ps_par (i := 3) (j := 4) rfl sc_Machine_plain.nd rfl rfl (by decide) rfl rfl h (by rfl))) (sss_cons (ss_if (st_cmp (k_in K rfl hr) (se_var (pv 3)) ((se_kt Z.n_WORKS Z.t_WORKS rv_WORKS))) (sss_cons (ss_st (i := 5) sc_Machine_plain.nd (k_call K rfl c_worked hr (sa_cons (se_var (pv 3)) (sa_cons (k_ix K rfl hr (se_var (pv 4)) (se_neg (se_int))) (sa_cons (k_ix K rfl hr (se_var (pv 4)) (se_neg (se_int))) (sa_nil)))))) (sss_cons (ss_if (st_cmp o_is (se_var (pv 5)) (se_non)) (sss_one (ss_ret ((se_const Z.g_ZERO fun _ => rfl)))) (sss_nil)) (sss_one (ss_asg (se_op (k_add K rfl) (k_slice K rfl (se_var (pv 4)) (sp_none) (sp_some (se_neg (se_int)))) (se_lst (sa_cons (se_var (pv 5)) (sa_nil)))) (sh_sub hr (se_var (pv 1)) (se_int)))))) (sss_one (ss_if (st_cmp (k_eq K rfl hr) (se_var (pv 3)) (se_str)) (sss_one (ss_expr (k_lm K rfl PySem.F.plainAttrs_list PySem.F.slot_list_append PySem.F.type_list_append m_append (se_var (pv 4)) (sa_cons (k_ix K rfl hr (se_var (pv 2)) (se_int)) (sa_nil))))) (sss_one (ss_if (st_cmp (k_eq K rfl hr) (se_var (pv 3)) (se_str)) (sss_one (ss_expr (k_lm K rfl PySem.F.plainAttrs_list PySem.F.slot_list_append PySem.F.type_list_append m_append (se_var (pv 4)) (sa_cons (k_ix K rfl hr (k_ix K rfl hr (se_var (pv 1)) (se_int)) (k_ix K rfl hr (se_var (pv 2)) (se_int))) (sa_nil))))) (sss_one (ss_if (st_cmp (k_eq K rfl hr) (se_var (pv 3)) (se_str)) (sss_one (ss_asg (k_lm0 K rfl PySem.F.plainAttrs_list PySem.F.slot_list_pop PySem.F.type_list_pop m_pop (se_var (pv 4))) (sh_sub hr (k_ix K rfl hr (se_var (pv 1)) (se_int)) (k_ix K rfl hr (se_var (pv 2)) (se_int))))) (sss_one (ss_if (st_cmp (k_eq K rfl hr) (se_var (pv 3)) (se_str)) (sss_one (ss_expr (k_lm K rfl PySem.F.plainAttrs_list PySem.F.slot_list_append PySem.F.type_list_append m_append (se_var (pv 4)) (sa_cons (k_ix K rfl hr (se_var (pv 4)) (se_neg (se_int))) (sa_nil))))) (sss_one (ss_if (st_cmp (k_eq K rfl hr) (se_var (pv 3)) (se_str)) (sss_one (ss_expr (k_lm0 K rfl PySem.F.plainAttrs_list PySem.F.slot_list_pop PySem.F.type_list_pop m_pop (se_var (pv 4))))) (sss_one (ss_expr (k_lm K rfl PySem.F.plainAttrs_list PySem.F.slot_list_append PySem.F.type_list_append m_append (se_var (pv 4)) (sa_cons (k_call K rfl c_wrap hr (sa_cons (se_neg (k_lm0 K rfl PySem.F.plainAttrs_list PySem.F.slot_list_pop PySem.F.type_list_pop m_pop (se_var (pv 4)))) (sa_nil))) (sa_nil)))))))))))))))) (sss_cons (ss_augS hr (se_var (pv 1)) (se_int) (se_int) ip_add so_addI) (sss_one (ss_ret (se_non)))))⟩
theorem sc_Machine_done : FnScope ["self", "thread", "frame", "op", "word"] ["self", "thread", "frame", "op"] (defScope s_Machine_done) := ⟨rfl, rfl, rfl, by decide +kernel, rfl, by decide +kernel, by decide +kernel⟩
theorem ok_Machine_done (Z : Fx K CA mg) (F : FunD K "done" "Machine.done" (defArgs s_Machine_done) (defBody s_Machine_done) (defScope s_Machine_done) [] [] f fd) (c_Machine_pass_on : CalM P w K CA mg base 1 "pass_on" 2 m_Machine_pass_on [] []) (c_Machine_cell : CalM P w K CA mg base 1 "cell" 1 m_Machine_cell [] []) (c_Machine_shared : CalM P w K CA mg base 1 "shared" 1 m_Machine_shared [] []) (c_Machine_plain : CalM P w K CA mg base 1 "plain" 4 m_Machine_plain [] []) : FnOk P w K mg base CX0 5 f fd ["self", "thread", "frame", "op"] (spOf ⟨K, CA⟩ m_Machine_done) :=
  def_ok F sc_Machine_done rfl rfl fun cdv A outer s H E hr => ⟨_, sss_cons (ss_st (i := 4) sc_Machine_done.nd (k_ix K rfl hr (se_var (pv 3)) (se_int))) (sss_cons (ss_if (st_cmp (k_in K rfl hr) (se_var (pv 4)) (se_tup (sa_cons (se_str) (sa_cons (se_str) (sa_nil))))) (sss_one (ss_ret (se_no))) (sss_nil)) (sss_cons (ss_if (st_cmp (k_in K rfl hr) (se_var (pv 4)) (se_tup (sa_cons (se_str) (sa_cons (se_str) (sa_cons (se_str) (sa_cons (se_str) (sa_nil))))))) (sss_one (ss_ret (k_meth K rfl c_Machine_pass_on hr (se_var (pv 0)) (sa_cons (se_var (pv 1)) (sa_cons (se_var (pv 2)) (sa_cons (se_var (pv 3)) (sa_nil))))))) (sss_nil)) (sss_cons (ss_if (st_cmp (k_in K rfl hr) (se_var (pv 4)) (se_tup (sa_cons (se_str) (sa_cons (se_str) (sa_cons (se_str) (sa_cons (se_str) (sa_cons (se_str) (sa_nil)))))))) (sss_one (ss_ret (k_meth K rfl c_Machine_cell hr (se_var (pv 0)) (sa_cons (se_var (pv 2)) (sa_cons (se_var (pv 3)) (sa_nil)))))) (sss_nil)) (sss_cons (ss_if (st_cmp (k_in K rfl hr) (se_var (pv 4)) (se_tup (sa_cons (se_str) (sa_cons (se_str) (sa_cons (se_str) (sa_cons (se_str) (sa_nil))))))) (sss_one (ss_ret (k_meth K rfl c_Machine_shared hr (se_var (pv 0)) (sa_cons (se_var (pv 1)) (sa_cons (se_var (pv 2)) (sa_cons (se_var (pv 3)) (sa_nil))))))) (sss_nil)) (sss_one (ss_ret (k_meth K rfl c_Machine_plain hr (se_var (pv 0)) (sa_cons (se_var (pv 2)) (sa_cons (se_var (pv 3)) (sa_nil))))))))))⟩
theorem sc_Machine_step : FnScope ["self", "thread", "frame", "place", "op", "code", "one"] ["self", "thread"] (defScope s_Machine_step) := ⟨rfl, rfl, rfl, by decide +kernel, rfl, by decide +kernel, by decide +kernel⟩
theorem ok_Machine_step (Z : Fx K CA mg) (F : FunD K "step" "Machine.step" (defArgs s_Machine_step) (defBody s_Machine_step) (defScope s_Machine_step) [] [] f fd) (c_is_whole : Cal P w K CA mg base "is_whole" 1 m_is_whole [] []) (c_Machine_may_go : CalM P w K CA mg base 1 "may_go" 3 m_Machine_may_go [] []) (c_Machine_next_one : CalM P w K CA mg base 1 "next_one" 1 m_Machine_next_one [] []) (c_needs : Cal P w K CA mg base "needs" 1 m_needs [] []) (c_Machine_done : CalM P w K CA mg base 1 "done" 5 m_Machine_done [] []) : FnOk P w K mg base CX0 6 f fd ["self", "thread"] (spOf ⟨K, CA⟩ m_Machine_step) :=
  def_ok F sc_Machine_step rfl rfl fun cdv A outer s H E hr => ⟨_, sss_cons (ss_if (SW.st (sw_or (st_not (st_val (k_call K rfl c_is_whole hr (sa_cons (se_var (pv 1)) (sa_nil))))) (sw_or1 (st_cmp (k_notIn K rfl hr) (se_var (pv 1)) (k_meth0 K rfl c_Machine_may_go hr (se_var (pv 0))))))) (sss_no) (sss_nil)) (sss_cons (ss_st (i := 2) sc_Machine_step.nd (k_ix K rfl hr (k_ix K rfl hr (k_ix K rfl hr (k_fld K rfl Z.c1 Z.na1_threads (se_var (pv 0))) (se_var (pv 1))) (se_int)) (se_neg (se_int)))) (sss_cons (ss_st (i := 3) sc_Machine_step.nd (se_tup (sa_cons (k_ix K rfl hr (se_var (pv 2)) (se_int)) (sa_cons (k_ix K rfl hr (se_var (pv 2)) (se_int)) (sa_nil))))) (sss_cons (ss_st (i := 4) sc_Machine_step.nd (k_meth K rfl c_Machine_next_one hr (se_var (pv 0)) (sa_cons (se_var (pv 1)) (sa_nil)))) (sss_cons (ss_fldaug Z.c1 Z.na1_steps in_add so_addI (se_var (pv 0)) (se_int)) (sss_cons (ss_st (i := 5) sc_Machine_step.nd (se_if (SW.st (sw_or (st_cmp o_lt (se_cb (k_len K rfl) Z.b_len boot_len (sa_cons (k_ix K rfl hr (se_var (pv 2)) (se_int)) (sa_nil))) (k_call K rfl c_needs hr (sa_cons (k_fld K rfl Z.c1 Z.na1_program (se_var (pv 0))) (sa_cons (se_var (pv 4)) (sa_nil))))) (sw_or1 (st_cmp (k_eq K rfl hr) (k_ix K rfl hr (se_var (pv 4)) (se_int)) (se_str))))) ((se_const Z.g_FEW fun _ => rfl)) (k_meth K rfl c_Machine_done hr (se_var (pv 0)) (sa_cons (se_var (pv 1)) (sa_cons (se_var (pv 2)) (sa_cons (se_var (pv 4)) (sa_nil))))))) (sss_one (ss_if (st_cmp o_isnt (se_var (pv 5)) (se_non)) (sss_one (ss_fld Z.c1 Z.na1_end (se_var (pv 0)) (se_op (k_add K rfl) (se_tup (sa_cons (se_str) (sa_cons (se_var (pv 5)) (sa_cons (se_var (pv 1)) (sa_nil))))) (se_var (pv 3))))) (sss_one (ss_if (st_not (st_val (se_cb (k_any K rfl rfl) Z.b_any boot_any (sa_cons (se_lc rfl sc_Machine_step.nd (k_seq K rfl (k_fld K rfl Z.c1 Z.na1_threads (se_var (pv 0)))) (blkOk_by (own := [("one", 6)]) (by rfl)) rfl (fun _ _ _ _ _ => sh_nm (i := 6) sc_Machine_step.nd) (fun _ _ _ _ _ => sts_nil) (fun _ _ _ _ _ => se_cmp o_gt (se_cb (k_len K rfl) Z.b_len boot_len (sa_cons (k_ix K rfl hr (se_var (pv 6)) (se_int)) (sa_nil))) (se_int))) (sa_nil))))) (sss_one (ss_fld Z.c1 Z.na1_end (se_var (pv 0)) (se_tup (sa_cons (se_str) (sa_nil))))) (sss_one (ss_if (st_cmp (k_eq K rfl hr) (se_cb (k_len K rfl) Z.b_len boot_len (sa_cons (k_meth0 K rfl c_Machine_may_go hr (se_var (pv 0))) (sa_nil))) (se_int)) (sss_one (ss_fld Z.c1 Z.na1_end (se_var (pv 0)) (se_tup (sa_cons (se_str) (sa_nil))))) (sss_nil))))))))))))⟩
theorem sc_event_of : FnScope ["machine", "thread", "number", "frame", "place", "touches", "one"] ["machine", "thread", "number"] (defScope s_event_of) := ⟨rfl, rfl, rfl, by decide +kernel, rfl, by decide +kernel, by decide +kernel⟩
theorem ok_event_of (Z : Fx K CA mg) (F : FunD K "event_of" "event_of" (defArgs s_event_of) (defBody s_event_of) (defScope s_event_of) [] [] f fd) (c_Machine_may_go : CalM P w K CA mg base 1 "may_go" 3 m_Machine_may_go [] []) (c_touches_of : Cal P w K CA mg base "touches_of" 2 m_touches_of [] []) (c_Machine_step : CalM P w K CA mg base 1 "step" 6 m_Machine_step [] []) : FnOk P w K mg base CX0 7 f fd ["machine", "thread", "number"] (spOf ⟨K, CA⟩ m_event_of) :=
  def_ok F sc_event_of rfl rfl fun cdv A outer s H E hr => ⟨_, sss_cons (ss_if (st_cmp (k_notIn K rfl hr) (se_var (pv 1)) (k_meth0 K rfl c_Machine_may_go hr (se_var (pv 0)))) (sss_no) (sss_nil)) (sss_cons (ss_st (i := 3) sc_event_of.nd (k_ix K rfl hr (k_ix K rfl hr (k_ix K rfl hr (k_fld K rfl Z.c1 Z.na1_threads (se_var (pv 0))) (se_var (pv 1))) (se_int)) (se_neg (se_int)))) (sss_cons (ss_par (sa_cons (se_tup (sa_cons (k_ix K rfl hr (se_var (pv 3)) (se_int)) (sa_cons (k_ix K rfl hr (se_var (pv 3)) (se_int)) (sa_nil)))) (sa_cons (k_call K rfl c_touches_of hr (sa_cons (se_var (pv 0)) (sa_cons (se_var (pv 1)) (sa_nil)))) (sa_nil))) (fun h => ps_par (i := 4) (j := 5) rfl sc_event_of.nd rfl rfl (by decide) rfl rfl h (by rfl))) (sss_cons (ss_expr (k_meth K rfl c_Machine_step hr (se_var (pv 0)) (sa_cons (se_var (pv 1)) (sa_nil)))) (sss_cons (ss_if (SW.st (sw_and (st_cmp o_isnt (k_fld K rfl Z.c1 Z.na1_end (se_var (pv 0))) (se_non)) (sw_and1 (st_cmp (k_eq K rfl hr) (k_ix K rfl hr (k_fld K rfl Z.c1 Z.na1_end (se_var (pv 0))) (se_int)) (se_str))))) (sss_one (ss_st (i := 5) sc_event_of.nd (se_op (k_add K rfl) (se_tup (sa_cons (se_tup (sa_cons (se_tup (sa_cons (se_str) (sa_nil))) (sa_cons (se_str) (sa_nil)))) (sa_nil))) (se_ct (k_tuple K rfl) Z.b_tuple boot_tuple (sa_cons (se_lc rfl sc_event_of.nd (k_seq K rfl (se_var (pv 5))) (blkOk_by (own := [("one", 6)]) (by rfl)) rfl (fun _ _ _ _ _ => sh_nm (i := 6) sc_event_of.nd) (fun _ _ _ _ _ => sts_one (st_cmp (k_in K rfl hr) (k_ix K rfl hr (se_var (pv 6)) (se_int)) ((let ⟨_, _, h0, h1, h2⟩ := Z.t_SHARED; se_kt2 Z.n_SHARED h0 h1 h2 (fun _ => .cons rfl .nil) (fun _ => .cons rfl .nil))))) (fun _ _ _ _ _ => se_var (pv 6))) (sa_nil)))))) (sss_nil)) (sss_one (ss_ret (se_op (k_add K rfl) (se_op (k_add K rfl) (se_tup (sa_cons (se_var (pv 1)) (sa_cons (se_var (pv 2)) (sa_nil)))) (se_var (pv 4))) (se_tup (sa_cons (se_var (pv 5)) (sa_nil))))))))))⟩
theorem sc_events : FnScope ["program", "inputs", "weaving", "thread", "machine", "own", "found"] ["program", "inputs", "weaving"] (defScope s_events) := ⟨rfl, rfl, rfl, by decide +kernel, rfl, by decide +kernel, by decide +kernel⟩
theorem ok_events (Z : Fx K CA mg) (F : FunD K "events" "events" (defArgs s_events) (defBody s_events) (defScope s_events) [] [] f fd) (c_look_at_weaving : Cal P w K CA mg base "look_at_weaving" 3 m_look_at_weaving [] []) (c_Machine_init : CalI P w K CA mg base 1 "Machine" 3 m_Machine_init [] []) (c_event_of : Cal P w K CA mg base "event_of" 7 m_event_of [] []) : FnOk P w K mg base CX0 8 f fd ["program", "inputs", "weaving"] (spOf ⟨K, CA⟩ m_events) :=
  def_ok F sc_events rfl rfl fun cdv A outer s H E hr => ⟨_, sss_cons (ss_expr (k_call K rfl c_look_at_weaving hr (sa_cons (se_var (pv 2)) (sa_nil)))) (sss_cons (ss_par3 (sa_cons (k_make K rfl c_Machine_init hr (sa_cons (se_var (pv 0)) (sa_cons (se_var (pv 1)) (sa_nil)))) (sa_cons (se_newK) (sa_cons (se_lst (sa_nil)) (sa_nil)))) (fun h => ps_par3 (i := 4) (j := 5) (l := 6) rfl sc_events.nd rfl rfl rfl (by decide) (by decide) (by decide) rfl rfl rfl h (by rfl))) (sss_cons (ss_for .never rfl (k_seq K rfl (se_var (pv 2))) (sh_nm (i := 3) sc_events.nd) (sss_cons (ss_expr (k_lm K rfl PySem.F.plainAttrs_list PySem.F.slot_list_append PySem.F.type_list_append m_append (se_var (pv 6)) (sa_cons (k_call K rfl c_event_of hr (sa_cons (se_var (pv 4)) (sa_cons (se_var (pv 3)) (sa_cons (se_get2 hr (se_var (pv 5)) (se_var (pv 3)) (se_int)) (sa_nil))))) (sa_nil)))) (sss_one (ss_asg (se_op (k_add K rfl) (se_get2 hr (se_var (pv 5)) (se_var (pv 3)) (se_int)) (se_int)) (sh_sub hr (se_var (pv 5)) (se_var (pv 3))))))) (sss_one (ss_ret (se_ct (k_tuple K rfl) Z.b_tuple boot_tuple (sa_cons (se_var (pv 6)) (sa_nil)))))))⟩
theorem sc_Follows_init : FnScope ["self", "rows"] ["self", "rows"] (defScope s_Follows_init) := ⟨rfl, rfl, rfl, by decide +kernel, rfl, by decide +kernel, by decide +kernel⟩
theorem ok_Follows_init (Z : Fx K CA mg) (F : FunD K "__init__" "Follows.__init__" (defArgs s_Follows_init) (defBody s_Follows_init) (defScope s_Follows_init) [] [] f fd) : FnOk P w K mg base CX0 1 f fd ["self", "rows"] (spOf ⟨K, CA⟩ m_Follows_init) :=
  def_ok F sc_Follows_init rfl rfl fun cdv A outer s H E hr => ⟨_, sss_cons (ss_fld Z.c3 Z.na3_rows (se_var (pv 0)) (se_var (pv 1))) (sss_cons (ss_fld Z.c3 Z.na3_lots (se_var (pv 0)) (se_lst (sa_nil))) (sss_one (ss_fld Z.c3 Z.na3_stays (se_var (pv 0)) (se_newT))))⟩
theorem sc_Touched_init : FnScope ["self"] ["self"] (defScope s_Touched_init) := ⟨rfl, rfl, rfl, by decide +kernel, rfl, by decide +kernel, by decide +kernel⟩
theorem ok_Touched_init (Z : Fx K CA mg) (F : FunD K "__init__" "Touched.__init__" (defArgs s_Touched_init) (defBody s_Touched_init) (defScope s_Touched_init) [] [] f fd) : FnOk P w K mg base CX0 1 f fd ["self"] (spOf ⟨K, CA⟩ m_Touched_init) :=
  def_ok F sc_Touched_init rfl rfl fun cdv A outer s H E hr => ⟨_, sss_cons (ss_fld Z.c2 Z.na2_last (se_var (pv 0)) (se_newT)) (sss_one (ss_fld Z.c2 Z.na2_since (se_var (pv 0)) (se_newT)))⟩
theorem sc_joined_by : FnScope ["event", "thing", "how"] ["event"] (defScope s_joined_by) := ⟨rfl, rfl, rfl, by decide +kernel, rfl, by decide +kernel, by decide +kernel⟩
theorem ok_joined_by (Z : Fx K CA mg) (F : FunD K "joined_by" "joined_by" (defArgs s_joined_by) (defBody s_joined_by) (defScope s_joined_by) [] [] f fd) : FnOk P w K mg base CX0 1 f fd ["event"] (spOf ⟨K, CA⟩ m_joined_by) :=
  def_ok F sc_joined_by rfl rfl fun cdv A outer s H E hr => ⟨_, sss_cons (ss_for .never rfl (k_seq K rfl (k_ix K rfl hr (se_var (pv 0)) (se_int))) (k_htup K rfl rfl (shs_cons (sh_nm (i := 1) sc_joined_by.nd) (shs_cons (sh_nm (i := 2) sc_joined_by.nd) (shs_nil)))) (sss_one (ss_if (SW.st (sw_and (st_cmp (k_eq K rfl hr) (k_ix K rfl hr (se_var (pv 1)) (se_int)) (se_str)) (sw_and1 (st_cmp (k_eq K rfl hr) (se_var (pv 2)) (se_str))))) (sss_one (ss_ret (k_ix K rfl hr (se_var (pv 1)) (se_int)))) (sss_nil)))) (sss_one (ss_ret (se_non)))⟩
theorem sc_spawned_by : FnScope ["event", "thing", "how"] ["event"] (defScope s_spawned_by) := ⟨rfl, rfl, rfl, by decide +kernel, rfl, by decide +kernel, by decide +kernel⟩
theorem ok_spawned_by (Z : Fx K CA mg) (F : FunD K "spawned_by" "spawned_by" (defArgs s_spawned_by) (defBody s_spawned_by) (defScope s_spawned_by) [] [] f fd) : FnOk P w K mg base CX0 1 f fd ["event"] (spOf ⟨K, CA⟩ m_spawned_by) :=
  def_ok F sc_spawned_by rfl rfl fun cdv A outer s H E hr => ⟨_, sss_cons (ss_for .never rfl (k_seq K rfl (k_ix K rfl hr (se_var (pv 0)) (se_int))) (k_htup K rfl rfl (shs_cons (sh_nm (i := 1) sc_spawned_by.nd) (shs_cons (sh_nm (i := 2) sc_spawned_by.nd) (shs_nil)))) (sss_one (ss_if (SW.st (sw_and (st_cmp (k_eq K rfl hr) (k_ix K rfl hr (se_var (pv 1)) (se_int)) (se_str)) (sw_and (st_cmp (k_eq K rfl hr) (se_var (pv 2)) (se_str)) (sw_and1 (st_cmp (k_ne K rfl hr) (k_ix K rfl hr (se_var (pv 1)) (se_int)) (k_ix K rfl hr (se_var (pv 0)) (se_int))))))) (sss_one (ss_ret (k_ix K rfl hr (se_var (pv 1)) (se_int)))) (sss_nil)))) (sss_one (ss_ret (se_non)))⟩
theorem sc_spawn_for : FnScope ["rows", "index", "number", "at"] ["rows", "index"] (defScope s_spawn_for) := ⟨rfl, rfl, rfl, by decide +kernel, rfl, by decide +kernel, by decide +kernel⟩
theorem ok_spawn_for (Z : Fx K CA mg) (F : FunD K "spawn_for" "spawn_for" (defArgs s_spawn_for) (defBody s_spawn_for) (defScope s_spawn_for) [] [] f fd) (c_joined_by : Cal P w K CA mg base "joined_by" 1 m_joined_by [] []) (c_spawned_by : Cal P w K CA mg base "spawned_by" 1 m_spawned_by [] []) : FnOk P w K mg base CX0 2 f fd ["rows", "index"] (spOf ⟨K, CA⟩ m_spawn_for) :=
  def_ok F sc_spawn_for rfl rfl fun cdv A outer s H E hr => ⟨_, sss_cons (ss_st (i := 2) sc_spawn_for.nd (k_call K rfl c_joined_by hr (sa_cons (k_ix K rfl hr (se_var (pv 0)) (se_var (pv 1))) (sa_nil)))) (sss_cons (ss_if (st_cmp o_is (se_var (pv 2)) (se_non)) (sss_one (ss_ret (se_non))) (sss_nil)) (sss_one (ss_ret (k_ix K rfl hr (se_op (k_add K rfl) (se_lc rfl sc_spawn_for.nd (si_rng1 Z.b_range (sa_cons (se_var (pv 1)) (sa_nil))) (blkOk_by (own := [("at", 3)]) (by rfl)) rfl (fun _ _ _ _ _ => sh_nm (i := 3) sc_spawn_for.nd) (fun _ _ _ _ _ => sts_one (st_cmp (k_eq K rfl hr) (k_call K rfl c_spawned_by hr (sa_cons (k_ix K rfl hr (se_var (pv 0)) (se_var (pv 3))) (sa_nil))) (se_var (pv 2)))) (fun _ _ _ _ _ => se_var (pv 3))) (se_lst (sa_cons (se_non) (sa_nil)))) (se_int)))))⟩
theorem sc_line_before : FnScope ["rows", "index", "here", "found", "at"] ["rows", "index"] (defScope s_line_before) := ⟨rfl, rfl, rfl, by decide +kernel, rfl, by decide +kernel, by decide +kernel⟩
theorem ok_line_before (Z : Fx K CA mg) (F : FunD K "line_before" "line_before" (defArgs s_line_before) (defBody s_line_before) (defScope s_line_before) [] [] f fd) (c_spawned_by : Cal P w K CA mg base "spawned_by" 1 m_spawned_by [] []) : FnOk P w K mg base CX0 2 f fd ["rows", "index"] (spOf ⟨K, CA⟩ m_line_before) :=
  def_ok F sc_line_before rfl rfl fun cdv A outer s H E hr => ⟨_, sss_cons (ss_st (i := 2) sc_line_before.nd (k_ix K rfl hr (se_var (pv 0)) (se_var (pv 1)))) (sss_cons (ss_st (i := 3) sc_line_before.nd (k_slice K rfl (se_lc rfl sc_line_before.nd (si_down Z.b_range (sa_cons (se_op o_sub (se_var (pv 1)) (se_int)) (sa_cons (se_neg (se_int)) (sa_cons (se_neg (se_int)) (sa_nil))))) (blkOk_by (own := [("at", 4)]) (by rfl)) rfl (fun _ _ _ _ _ => sh_nm (i := 4) sc_line_before.nd) (fun _ _ _ _ _ => sts_one (st_cmp (k_eq K rfl hr) (k_ix K rfl hr (k_ix K rfl hr (se_var (pv 0)) (se_var (pv 4))) (se_int)) (k_ix K rfl hr (se_var (pv 2)) (se_int)))) (fun _ _ _ _ _ => se_var (pv 4))) (sp_none) (sp_some (se_int)))) (sss_cons (ss_if (st_cmp (k_eq K rfl hr) (k_ix K rfl hr (se_var (pv 2)) (se_int)) (se_int)) (sss_one (ss_expr (k_lm K rfl PySem.F.plainAttrs_list PySem.F.slot_list_extend PySem.F.type_list_extend m_extend (se_var (pv 3)) (sa_cons (se_lc rfl sc_line_before.nd (si_rng1 Z.b_range (sa_cons (se_var (pv 1)) (sa_nil))) (blkOk_by (own := [("at", 4)]) (by rfl)) rfl (fun _ _ _ _ _ => sh_nm (i := 4) sc_line_before.nd) (fun _ _ _ _ _ => sts_one (st_cmp (k_eq K rfl hr) (k_call K rfl c_spawned_by hr (sa_cons (k_ix K rfl hr (se_var (pv 0)) (se_var (pv 4))) (sa_nil))) (k_ix K rfl hr (se_var (pv 2)) (se_int)))) (fun _ _ _ _ _ => se_var (pv 4))) (sa_nil))))) (sss_nil)) (sss_one (ss_ret (se_var (pv 3))))))⟩
theorem sc_own_before : FnScope ["rows", "index", "number", "here", "found", "at"] ["rows", "index"] (defScope s_own_before) := ⟨rfl, rfl, rfl, by decide +kernel, rfl, by decide +kernel, by decide +kernel⟩
theorem ok_own_before (Z : Fx K CA mg) (F : FunD K "own_before" "own_before" (defArgs s_own_before) (defBody s_own_before) (defScope s_own_before) [] [] f fd) (c_line_before : Cal P w K CA mg base "line_before" 2 m_line_before [] []) (c_joined_by : Cal P w K CA mg base "joined_by" 1 m_joined_by [] []) : FnOk P w K mg base CX0 3 f fd ["rows", "index"] (spOf ⟨K, CA⟩ m_own_before) :=
  def_ok F sc_own_before rfl rfl fun cdv A outer s H E hr => ⟨_, sss_cons (ss_par (sa_cons (k_ix K rfl hr (se_var (pv 0)) (se_var (pv 1))) (sa_cons (k_call K rfl c_line_before hr (sa_cons (se_var (pv 0)) (sa_cons (se_var (pv 1)) (sa_nil)))) (sa_nil))) (fun h => ps_par (i := 3) (j := 4) rfl sc_own_before.nd rfl rfl (by decide) rfl rfl h (by rfl))) (sss_cons (ss_st (i := 2) sc_own_before.nd (k_call K rfl c_joined_by hr (sa_cons (se_var (pv 3)) (sa_nil)))) (sss_cons (ss_if (st_cmp o_isnt (se_var (pv 2)) (se_non)) (sss_one (ss_expr (k_lm K rfl PySem.F.plainAttrs_list PySem.F.slot_list_extend PySem.F.type_list_extend m_extend (se_var (pv 4)) (sa_cons (k_slice K rfl (se_lc rfl sc_own_before.nd (si_down Z.b_range (sa_cons (se_op o_sub (se_var (pv 1)) (se_int)) (sa_cons (se_neg (se_int)) (sa_cons (se_neg (se_int)) (sa_nil))))) (blkOk_by (own := [("at", 5)]) (by rfl)) rfl (fun _ _ _ _ _ => sh_nm (i := 5) sc_own_before.nd) (fun _ _ _ _ _ => sts_one (st_cmp (k_eq K rfl hr) (k_ix K rfl hr (k_ix K rfl hr (se_var (pv 0)) (se_var (pv 5))) (se_int)) (se_var (pv 2)))) (fun _ _ _ _ _ => se_var (pv 5))) (sp_none) (sp_some (se_int))) (sa_nil))))) (sss_nil)) (sss_one (ss_ret (se_var (pv 4))))))⟩
theorem sc_Follows_closed : FnScope ["self", "index", "lot", "things", "going", "taken", "freed", "thing", "_", "stay"] ["self", "index", "lot"] (defScope s_Follows_closed) := ⟨rfl, rfl, rfl, by decide +kernel, rfl, by decide +kernel, by decide +kernel⟩
theorem ok_Follows_closed (Z : Fx K CA mg) (F : FunD K "closed" "Follows.closed" (defArgs s_Follows_closed) (defBody s_Follows_closed) (defScope s_Follows_closed) [] [] f fd) : FnOk P w K mg base CX0 1 f fd ["self", "index", "lot"] (spOf ⟨K, CA⟩ m_Follows_closed) :=
  def_ok F sc_Follows_closed rfl rfl fun cdv A outer s H E hr => ⟨_, sss_cons (ss_setLc (i := 3) rfl sc_Follows_closed.nd rfl rfl (sw_true rfl rfl rfl rfl) (k_seq K rfl (k_ix K rfl hr (k_ix K rfl hr (k_fld K rfl Z.c3 Z.na3_rows (se_var (pv 0))) (se_var (pv 1))) (se_int))) (blkOk_by (own := [("thing", 7), ("_", 8)]) (by rfl)) rfl (fun _ _ _ _ _ => k_htup K rfl rfl (shs_cons (sh_nm (i := 7) sc_Follows_closed.nd) (shs_cons (sh_nm (i := 8) sc_Follows_closed.nd) (shs_nil)))) (fun _ _ _ _ _ => sts_one (st_cmp (k_eq K rfl hr) (k_ix K rfl hr (se_var (pv 7)) (se_int)) (se_str))) (fun _ _ _ _ _ => se_var (pv 7))) (sss_cons (ss_st (i := 4) sc_Follows_closed.nd (se_bl)) (sss_cons (ss_while .never (st_val (se_var (pv 4))) (sss_cons (ss_st (i := 4) sc_Follows_closed.nd (se_bl)) (sss_one (ss_for .never rfl (k_seq K rfl (se_lc2 rfl sc_Follows_closed.nd (k_seq K rfl (se_var (pv 3))) (blkOk_by (own := [("thing", 7), ("stay", 9)]) (by rfl)) (by decide) rfl rfl (fun _ _ _ _ _ => sh_nm (i := 7) sc_Follows_closed.nd) (fun _ _ _ _ _ => sts_nil) (fun _ _ _ _ _ => k_seq K rfl (se_get2 hr (k_fld K rfl Z.c3 Z.na3_stays (se_var (pv 0))) (se_var (pv 7)) (se_lst (sa_nil)))) (fun _ _ _ _ _ => sh_nm (i := 9) sc_Follows_closed.nd) (fun _ _ _ _ _ => sts_nil) (fun _ _ _ _ _ => se_var (pv 9)))) (k_htup K rfl rfl (shs_cons (sh_nm (i := 5) sc_Follows_closed.nd) (shs_cons (sh_nm (i := 6) sc_Follows_closed.nd) (shs_nil)))) (sss_one (ss_if (SW.st (sw_and (st_cmp o_isnt (se_var (pv 6)) (se_non)) (sw_and (st_cmp (k_eq K rfl hr) (se_op o_and (se_op o_shr (se_var (pv 2)) (se_var (pv 5))) (se_int)) (se_int)) (sw_and1 (st_cmp (k_eq K rfl hr) (se_op o_and (se_op o_shr (se_var (pv 2)) (se_var (pv 6))) (se_int)) (se_int)))))) (sss_cons (ss_st (i := 2) sc_Follows_closed.nd (se_op o_or (se_op o_or (se_var (pv 2)) (k_ix K rfl hr (k_fld K rfl Z.c3 Z.na3_lots (se_var (pv 0))) (se_var (pv 6)))) (se_op o_shl (se_int) (se_var (pv 6))))) (sss_one (ss_st (i := 4) sc_Follows_closed.nd (se_bl)))) (sss_nil))))))) (sss_one (ss_ret (se_var (pv 2))))))⟩
theorem sc_Follows_begin : FnScope ["self", "index", "alone", "lot", "at"] ["self", "index", "alone"] (defScope s_Follows_begin) := ⟨rfl, rfl, rfl, by decide +kernel, rfl, by decide +kernel, by decide +kernel⟩
theorem ok_Follows_begin (Z : Fx K CA mg) (F : FunD K "begin" "Follows.begin" (defArgs s_Follows_begin) (defBody s_Follows_begin) (defScope s_Follows_begin) [.bl false] [] f fd) (c_line_before : Cal P w K CA mg base "line_before" 2 m_line_before [] []) (c_own_before : Cal P w K CA mg base "own_before" 3 m_own_before [] []) (c_Follows_closed : CalM P w K CA mg base 3 "closed" 1 m_Follows_closed [] []) : FnOk P w K mg base CX0 4 f fd ["self", "index", "alone"] (spOf ⟨K, CA⟩ m_Follows_begin) :=
  def_ok F sc_Follows_begin rfl rfl fun cdv A outer s H E hr => ⟨_, sss_cons (ss_st (i := 3) sc_Follows_begin.nd (se_int)) (sss_cons (ss_for .never rfl (k_seq K rfl (se_if (st_val (se_var (pv 2))) (k_call K rfl c_line_before hr (sa_cons (k_fld K rfl Z.c3 Z.na3_rows (se_var (pv 0))) (sa_cons (se_var (pv 1)) (sa_nil)))) (k_call K rfl c_own_before hr (sa_cons (k_fld K rfl Z.c3 Z.na3_rows (se_var (pv 0))) (sa_cons (se_var (pv 1)) (sa_nil)))))) (sh_nm (i := 4) sc_Follows_begin.nd) (sss_one (ss_st (i := 3) sc_Follows_begin.nd (se_op o_or (se_op o_or (se_var (pv 3)) (k_ix K rfl hr (k_fld K rfl Z.c3 Z.na3_lots (se_var (pv 0))) (se_var (pv 4)))) (se_op o_shl (se_int) (se_var (pv 4))))))) (sss_one (ss_ret (k_meth K rfl c_Follows_closed hr (se_var (pv 0)) (sa_cons (se_var (pv 1)) (sa_cons (se_var (pv 3)) (sa_nil)))))))⟩
theorem sc_name_of : FnScope ["event"] ["event"] (defScope s_name_of) := ⟨rfl, rfl, rfl, by decide +kernel, rfl, by decide +kernel, by decide +kernel⟩
theorem ok_name_of (Z : Fx K CA mg) (F : FunD K "name_of" "name_of" (defArgs s_name_of) (defBody s_name_of) (defScope s_name_of) [] [] f fd) : FnOk P w K mg base CX0 1 f fd ["event"] (spOf ⟨K, CA⟩ m_name_of) :=
  def_ok F sc_name_of rfl rfl fun cdv A outer s H E hr => ⟨_, sss_one (ss_ret (k_slice K rfl (se_var (pv 0)) (sp_none) (sp_some (se_int))))⟩
theorem sc_Touched_met : FnScope ["self", "event", "found", "thing", "how", "at"] ["self", "event"] (defScope s_Touched_met) := ⟨rfl, rfl, rfl, by decide +kernel, rfl, by decide +kernel, by decide +kernel⟩
theorem ok_Touched_met (Z : Fx K CA mg) (F : FunD K "met" "Touched.met" (defArgs s_Touched_met) (defBody s_Touched_met) (defScope s_Touched_met) [] [] f fd) : FnOk P w K mg base CX0 1 f fd ["self", "event"] (spOf ⟨K, CA⟩ m_Touched_met) :=
  def_ok F sc_Touched_met rfl rfl fun cdv A outer s H E hr => ⟨_, sss_cons (ss_st (i := 2) sc_Touched_met.nd (se_newK)) (sss_cons (ss_for .never rfl (k_seq K rfl (k_ix K rfl hr (se_var (pv 1)) (se_int))) (k_htup K rfl rfl (shs_cons (sh_nm (i := 3) sc_Touched_met.nd) (shs_cons (sh_nm (i := 4) sc_Touched_met.nd) (shs_nil)))) (sss_one (ss_if (st_cmp (k_ne K rfl hr) (k_ix K rfl hr (se_var (pv 3)) (se_int)) (se_str)) (sss_cons (ss_if (st_cmp (k_in K rfl hr) (se_var (pv 3)) (k_fld K rfl Z.c2 Z.na2_last (se_var (pv 0)))) (sss_one (ss_asg (se_bl) (sh_sub hr (se_var (pv 2)) (k_ix K rfl hr (k_fld K rfl Z.c2 Z.na2_last (se_var (pv 0))) (se_var (pv 3)))))) (sss_nil)) (sss_one (ss_if (st_cmp (k_ne K rfl hr) (se_var (pv 4)) (se_str)) (sss_one (ss_expr (k_upd K rfl hr rfl (se_var (pv 2)) (se_dc rfl sc_Touched_met.nd (k_seq K rfl (se_get2 hr (k_fld K rfl Z.c2 Z.na2_since (se_var (pv 0))) (se_var (pv 3)) (se_lst (sa_nil)))) (blkOk_by (own := [("at", 5)]) (by rfl)) rfl (fun _ _ _ _ _ => sh_nm (i := 5) sc_Touched_met.nd) (fun _ _ _ _ _ => sts_nil) (fun _ _ _ _ _ => se_var (pv 5)) (fun _ _ _ _ _ => se_bl))))) (sss_nil)))) (sss_nil)))) (sss_one (ss_ret (k_srtD K rfl hr rfl Z.b_sorted (se_var (pv 2)) (pk_cons pe_bl pk_nil)))))⟩
theorem sc_Follows_joined : FnScope ["self", "index", "lot", "at"] ["self", "index", "lot", "at"] (defScope s_Follows_joined) := ⟨rfl, rfl, rfl, by decide +kernel, rfl, by decide +kernel, by decide +kernel⟩
theorem ok_Follows_joined (Z : Fx K CA mg) (F : FunD K "joined" "Follows.joined" (defArgs s_Follows_joined) (defBody s_Follows_joined) (defScope s_Follows_joined) [] [] f fd) (c_Follows_closed : CalM P w K CA mg base 3 "closed" 1 m_Follows_closed [] []) : FnOk P w K mg base CX0 2 f fd ["self", "index", "lot", "at"] (spOf ⟨K, CA⟩ m_Follows_joined) :=
  def_ok F sc_Follows_joined rfl rfl fun cdv A outer s H E hr => ⟨_, sss_one (ss_ret (k_meth K rfl c_Follows_closed hr (se_var (pv 0)) (sa_cons (se_var (pv 1)) (sa_cons (se_op o_or (se_op o_or (se_var (pv 2)) (k_ix K rfl hr (k_fld K rfl Z.c3 Z.na3_lots (se_var (pv 0))) (se_var (pv 3)))) (se_op o_shl (se_int) (se_var (pv 3)))) (sa_nil)))))⟩
theorem sc_is_fault : FnScope ["event"] ["event"] (defScope s_is_fault) := ⟨rfl, rfl, rfl, by decide +kernel, rfl, by decide +kernel, by decide +kernel⟩
theorem ok_is_fault (Z : Fx K CA mg) (F : FunD K "is_fault" "is_fault" (defArgs s_is_fault) (defBody s_is_fault) (defScope s_is_fault) [] [] f fd) : FnOk P w K mg base CX0 1 f fd ["event"] (spOf ⟨K, CA⟩ m_is_fault) :=
  def_ok F sc_is_fault rfl rfl fun cdv A outer s H E hr => ⟨_, sss_one (ss_ret (se_cmp (k_in K rfl hr) (se_tup (sa_cons (se_tup (sa_cons (se_str) (sa_nil))) (sa_cons (se_str) (sa_nil)))) (k_ix K rfl hr (se_var (pv 0)) (se_int))))⟩
theorem sc_Follows_take : FnScope ["self", "index", "lot", "thing", "how", "stays"] ["self", "index", "lot"] (defScope s_Follows_take) := ⟨rfl, rfl, rfl, by decide +kernel, rfl, by decide +kernel, by decide +kernel⟩
theorem ok_Follows_take (Z : Fx K CA mg) (F : FunD K "take" "Follows.take" (defArgs s_Follows_take) (defBody s_Follows_take) (defScope s_Follows_take) [] [] f fd) (c_is_fault : Cal P w K CA mg base "is_fault" 1 m_is_fault [] []) : FnOk P w K mg base CX0 2 f fd ["self", "index", "lot"] (spOf ⟨K, CA⟩ m_Follows_take) :=
  def_ok F sc_Follows_take rfl rfl fun cdv A outer s H E hr => ⟨_, sss_cons (ss_expr (k_lm K rfl PySem.F.plainAttrs_list PySem.F.slot_list_append PySem.F.type_list_append m_append (k_fld K rfl Z.c3 Z.na3_lots (se_var (pv 0))) (sa_cons (se_if (st_val (k_call K rfl c_is_fault hr (sa_cons (k_ix K rfl hr (k_fld K rfl Z.c3 Z.na3_rows (se_var (pv 0))) (se_var (pv 1))) (sa_nil)))) (se_op o_sub (se_op o_shl (se_int) (se_cb (k_len K rfl) Z.b_len boot_len (sa_cons (k_fld K rfl Z.c3 Z.na3_lots (se_var (pv 0))) (sa_nil)))) (se_int)) (se_var (pv 2))) (sa_nil)))) (sss_one (ss_for .never rfl (k_seq K rfl (k_ix K rfl hr (k_ix K rfl hr (k_fld K rfl Z.c3 Z.na3_rows (se_var (pv 0))) (se_var (pv 1))) (se_int))) (k_htup K rfl rfl (shs_cons (sh_nm (i := 3) sc_Follows_take.nd) (shs_cons (sh_nm (i := 4) sc_Follows_take.nd) (shs_nil)))) (sss_one (ss_if (st_cmp (k_eq K rfl hr) (k_ix K rfl hr (se_var (pv 3)) (se_int)) (se_str)) (sss_cons (ss_st (i := 5) sc_Follows_take.nd (se_setd hr (k_fld K rfl Z.c3 Z.na3_stays (se_var (pv 0))) (se_var (pv 3)) (se_lst (sa_nil)))) (sss_one (ss_if (SW.st (sw_and (st_cmp o_gt (se_cb (k_len K rfl) Z.b_len boot_len (sa_cons (se_var (pv 5)) (sa_nil))) (se_int)) (sw_and1 (st_cmp o_is (k_ix K rfl hr (k_ix K rfl hr (se_var (pv 5)) (se_neg (se_int))) (se_int)) (se_non))))) (sss_one (ss_asg (se_tup (sa_cons (k_ix K rfl hr (k_ix K rfl hr (se_var (pv 5)) (se_neg (se_int))) (se_int)) (sa_cons (se_var (pv 1)) (sa_nil)))) (sh_sub hr (se_var (pv 5)) (se_neg (se_int))))) (sss_one (ss_expr (k_lm K rfl PySem.F.plainAttrs_list PySem.F.slot_list_append PySem.F.type_list_append m_append (se_var (pv 5)) (sa_cons (se_tup (sa_cons (se_var (pv 1)) (sa_cons (se_non) (sa_nil)))) (sa_nil)))))))) (sss_nil)))))⟩
theorem sc_Touched_take : FnScope ["self", "index", "event", "thing", "how"] ["self", "index", "event"] (defScope s_Touched_take) := ⟨rfl, rfl, rfl, by decide +kernel, rfl, by decide +kernel, by decide +kernel⟩
theorem ok_Touched_take (Z : Fx K CA mg) (F : FunD K "take" "Touched.take" (defArgs s_Touched_take) (defBody s_Touched_take) (defScope s_Touched_take) [] [] f fd) : FnOk P w K mg base CX0 1 f fd ["self", "index", "event"] (spOf ⟨K, CA⟩ m_Touched_take) :=
  def_ok F sc_Touched_take rfl rfl fun cdv A outer s H E hr => ⟨_, sss_one (ss_for .never rfl (k_seq K rfl (k_ix K rfl hr (se_var (pv 2)) (se_int))) (k_htup K rfl rfl (shs_cons (sh_nm (i := 3) sc_Touched_take.nd) (shs_cons (sh_nm (i := 4) sc_Touched_take.nd) (shs_nil)))) (sss_one (ss_if (st_cmp (k_eq K rfl hr) (se_var (pv 4)) (se_str)) (sss_one (ss_expr (k_lm K rfl PySem.F.plainAttrs_list PySem.F.slot_list_append PySem.F.type_list_append m_append (se_setd hr (k_fld K rfl Z.c2 Z.na2_since (se_var (pv 0))) (se_var (pv 3)) (se_lst (sa_nil))) (sa_cons (se_var (pv 1)) (sa_nil))))) (sss_cons (ss_asg (se_var (pv 1)) (sh_sub hr (k_fld K rfl Z.c2 Z.na2_last (se_var (pv 0))) (se_var (pv 3)))) (sss_one (ss_asg (se_lst (sa_nil)) (sh_sub hr (k_fld K rfl Z.c2 Z.na2_since (se_var (pv 0))) (se_var (pv 3)))))))))⟩
theorem sc_counts_of : FnScope ["rows", "wide", "thread", "row"] ["rows"] (defScope s_counts_of) := ⟨rfl, rfl, rfl, by decide +kernel, rfl, by decide +kernel, by decide +kernel⟩
theorem ok_counts_of (Z : Fx K CA mg) (F : FunD K "counts_of" "counts_of" (defArgs s_counts_of) (defBody s_counts_of) (defScope s_counts_of) [] [] f fd) : FnOk P w K mg base CX0 1 f fd ["rows"] (spOf ⟨K, CA⟩ m_counts_of) :=
  def_ok F sc_counts_of rfl rfl fun cdv A outer s H E hr => ⟨_, sss_cons (ss_st (i := 1) sc_counts_of.nd (se_op (k_add K rfl) (se_cb (k_max K rfl rfl) Z.b_max boot_max (sa_cons (se_op (k_add K rfl) (se_lc rfl sc_counts_of.nd (k_seq K rfl (se_var (pv 0))) (blkOk_by (own := [("row", 3)]) (by rfl)) rfl (fun _ _ _ _ _ => sh_nm (i := 3) sc_counts_of.nd) (fun _ _ _ _ _ => sts_nil) (fun _ _ _ _ _ => k_ix K rfl hr (se_var (pv 3)) (se_int))) (se_lst (sa_cons (se_neg (se_int)) (sa_nil)))) (sa_nil))) (se_int))) (sss_one (ss_ret (se_ct (k_tuple K rfl) Z.b_tuple boot_tuple (sa_cons (se_lc rfl sc_counts_of.nd (si_rng1 Z.b_range (sa_cons (se_var (pv 1)) (sa_nil))) (blkOk_by (own := [("thread", 2)]) (by rfl)) rfl (fun _ _ _ _ _ => sh_nm (i := 2) sc_counts_of.nd) (fun _ _ _ _ _ => sts_nil) (fun _ _ _ _ _ => se_cb (k_len K rfl) Z.b_len boot_len (sa_cons (se_lc rfl sc_counts_of.nd (k_seq K rfl (se_var (pv 0))) (blkOk_by (own := [("row", 3)]) (by rfl)) rfl (fun _ _ _ _ _ => sh_nm (i := 3) sc_counts_of.nd) (fun _ _ _ _ _ => sts_one (st_cmp (k_eq K rfl hr) (k_ix K rfl hr (se_var (pv 3)) (se_int)) (se_var (pv 2)))) (fun _ _ _ _ _ => se_var (pv 3))) (sa_nil)))) (sa_nil)))))⟩
theorem sc_least_log : FnScope ["program", "inputs", "weaving", "rows", "follows", "touched", "pairs", "index", "event", "at", "made", "lot"] ["program", "inputs", "weaving"] (defScope s_least_log) := ⟨rfl, rfl, rfl, by decide +kernel, rfl, by decide +kernel, by decide +kernel⟩
theorem ok_least_log (Z : Fx K CA mg) (F : FunD K "least_log" "least_log" (defArgs s_least_log) (defBody s_least_log) (defScope s_least_log) [] [] f fd) (c_events : Cal P w K CA mg base "events" 8 m_events [] []) (c_Follows_init : CalI P w K CA mg base 3 "Follows" 1 m_Follows_init [] []) (c_Touched_init : CalI P w K CA mg base 2 "Touched" 1 m_Touched_init [] []) (c_spawn_for : Cal P w K CA mg base "spawn_for" 2 m_spawn_for [] []) (c_Follows_begin_d : CalM P w K CA mg base 3 "begin" 4 m_Follows_begin [.bl false] [.bl false]) (c_Follows_begin : CalM P w K CA mg base 3 "begin" 4 m_Follows_begin [] []) (c_name_of : Cal P w K CA mg base "name_of" 1 m_name_of [] []) (c_Touched_met : CalM P w K CA mg base 2 "met" 1 m_Touched_met [] []) (c_Follows_joined : CalM P w K CA mg base 3 "joined" 2 m_Follows_joined [] []) (c_Follows_take : CalM P w K CA mg base 3 "take" 2 m_Follows_take [] []) (c_Touched_take : CalM P w K CA mg base 2 "take" 1 m_Touched_take [] []) (c_counts_of : Cal P w K CA mg base "counts_of" 1 m_counts_of [] []) : FnOk P w K mg base CX0 9 f fd ["program", "inputs", "weaving"] (spOf ⟨K, CA⟩ m_least_log) :=
  def_ok F sc_least_log rfl rfl fun cdv A outer s H E hr => ⟨_, sss_cons (ss_st (i := 3) sc_least_log.nd (k_call K rfl c_events hr (sa_cons (se_var (pv 0)) (sa_cons (se_var (pv 1)) (sa_cons (se_var (pv 2)) (sa_nil)))))) (sss_cons (ss_par3 (sa_cons (k_make K rfl c_Follows_init hr (sa_cons (se_var (pv 3)) (sa_nil))) (sa_cons (k_make0 K rfl c_Touched_init hr) (sa_cons (se_lst (sa_nil)) (sa_nil)))) (fun h => ps_par3 (i := 4) (j := 5) (l := 6) rfl sc_least_log.nd rfl rfl rfl (by decide) (by decide) (by decide) rfl rfl rfl h (by rfl))) (sss_cons (ss_for .never rfl (k_en K rfl Z.b_enumerate (sa_cons (se_var (pv 3)) (sa_nil))) (k_htup K rfl rfl (shs_cons (sh_nm (i := 7) sc_least_log.nd) (shs_cons (sh_nm (i := 8) sc_least_log.nd) (shs_nil)))) (sss_cons (ss_par (sa_cons (k_call K rfl c_spawn_for hr (sa_cons (se_var (pv 3)) (sa_cons (se_var (pv 7)) (sa_nil)))) (sa_cons (k_meth K rfl c_Follows_begin_d hr (se_var (pv 4)) (sa_cons (se_var (pv 7)) (sa_nil))) (sa_nil))) (fun h => ps_par (i := 10) (j := 11) rfl sc_least_log.nd rfl rfl (by decide) rfl rfl h (by rfl))) (sss_cons (ss_if (SW.st (sw_and (st_cmp o_isnt (se_var (pv 10)) (se_non)) (sw_and1 (st_cmp (k_eq K rfl hr) (se_op o_and (se_op o_shr (k_meth K rfl c_Follows_begin hr (se_var (pv 4)) (sa_cons (se_var (pv 7)) (sa_cons (se_bl) (sa_nil)))) (se_var (pv 10))) (se_int)) (se_int))))) (sss_one (ss_expr (k_lm K rfl PySem.F.plainAttrs_list PySem.F.slot_list_append PySem.F.type_list_append m_append (se_var (pv 6)) (sa_cons (se_tup (sa_cons (k_call K rfl c_name_of hr (sa_cons (k_ix K rfl hr (se_var (pv 3)) (se_var (pv 10))) (sa_nil))) (sa_cons (k_call K rfl c_name_of hr (sa_cons (se_var (pv 8)) (sa_nil))) (sa_nil)))) (sa_nil))))) (sss_nil)) (sss_cons (ss_for .never rfl (k_seq K rfl (k_meth K rfl c_Touched_met hr (se_var (pv 5)) (sa_cons (se_var (pv 8)) (sa_nil)))) (sh_nm (i := 9) sc_least_log.nd) (sss_one (ss_if (st_cmp (k_eq K rfl hr) (se_op o_and (se_op o_shr (se_var (pv 11)) (se_var (pv 9))) (se_int)) (se_int)) (sss_cons (ss_expr (k_lm K rfl PySem.F.plainAttrs_list PySem.F.slot_list_append PySem.F.type_list_append m_append (se_var (pv 6)) (sa_cons (se_tup (sa_cons (k_call K rfl c_name_of hr (sa_cons (k_ix K rfl hr (se_var (pv 3)) (se_var (pv 9))) (sa_nil))) (sa_cons (k_call K rfl c_name_of hr (sa_cons (se_var (pv 8)) (sa_nil))) (sa_nil)))) (sa_nil)))) (sss_one (ss_st (i := 11) sc_least_log.nd (k_meth K rfl c_Follows_joined hr (se_var (pv 4)) (sa_cons (se_var (pv 7)) (sa_cons (se_var (pv 11)) (sa_cons (se_var (pv 9)) (sa_nil)))))))) (sss_nil)))) (sss_cons (ss_expr (k_meth K rfl c_Follows_take hr (se_var (pv 4)) (sa_cons (se_var (pv 7)) (sa_cons (se_var (pv 11)) (sa_nil))))) (sss_one (ss_expr (k_meth K rfl c_Touched_take hr (se_var (pv 5)) (sa_cons (se_var (pv 7)) (sa_cons (se_var (pv 8)) (sa_nil))))))))))) (sss_one (ss_ret (se_tup (sa_cons (k_call K rfl c_counts_of hr (sa_cons (se_var (pv 3)) (sa_nil))) (sa_cons (se_ct (k_tuple K rfl) Z.b_tuple boot_tuple (sa_cons (se_cb (k_srt4 K rfl hr) Z.b_sorted boot_sorted (sa_cons (se_var (pv 6)) (sa_nil))) (sa_nil))) (sa_nil))))))))⟩
theorem sc_names_in : FnScope ["weaving", "own", "found", "index", "thread"] ["weaving"] (defScope s_names_in) := ⟨rfl, rfl, rfl, by decide +kernel, rfl, by decide +kernel, by decide +kernel⟩
theorem ok_names_in (Z : Fx K CA mg) (F : FunD K "names_in" "names_in" (defArgs s_names_in) (defBody s_names_in) (defScope s_names_in) [] [] f fd) : FnOk P w K mg base CX0 1 f fd ["weaving"] (spOf ⟨K, CA⟩ m_names_in) :=
  def_ok F sc_names_in rfl rfl fun cdv A outer s H E hr => ⟨_, sss_cons (ss_par (sa_cons (se_newK) (sa_cons (se_newT) (sa_nil))) (fun h => ps_par (i := 1) (j := 2) rfl sc_names_in.nd rfl rfl (by decide) rfl rfl h (by rfl))) (sss_cons (ss_for .never rfl (k_en K rfl Z.b_enumerate (sa_cons (se_var (pv 0)) (sa_nil))) (k_htup K rfl rfl (shs_cons (sh_nm (i := 3) sc_names_in.nd) (shs_cons (sh_nm (i := 4) sc_names_in.nd) (shs_nil)))) (sss_cons (ss_asg (se_var (pv 3)) (sh_sub hr (se_var (pv 2)) (se_tup (sa_cons (se_var (pv 4)) (sa_cons (se_get2 hr (se_var (pv 1)) (se_var (pv 4)) (se_int)) (sa_nil)))))) (sss_one (ss_asg (se_op (k_add K rfl) (se_get2 hr (se_var (pv 1)) (se_var (pv 4)) (se_int)) (se_int)) (sh_sub hr (se_var (pv 1)) (se_var (pv 4))))))) (sss_one (ss_ret (se_var (pv 2)))))⟩
theorem sc_turned : FnScope ["program", "inputs", "weaving", "pair", "rows", "log", "others", "index", "one", "two", "names", "follows", "goal", "lot", "at"] ["program", "inputs", "weaving", "pair"] (defScope s_turned) := ⟨rfl, rfl, rfl, by decide +kernel, rfl, by decide +kernel, by decide +kernel⟩
theorem ok_turned (Z : Fx K CA mg) (F : FunD K "turned" "turned" (defArgs s_turned) (defBody s_turned) (defScope s_turned) [] [] f fd) (c_events : Cal P w K CA mg base "events" 8 m_events [] []) (c_least_log : Cal P w K CA mg base "least_log" 9 m_least_log [] []) (c_names_in : Cal P w K CA mg base "names_in" 1 m_names_in [] []) (c_Follows_init : CalI P w K CA mg base 3 "Follows" 1 m_Follows_init [] []) (c_Follows_begin_d : CalM P w K CA mg base 3 "begin" 4 m_Follows_begin [.bl false] [.bl false]) (c_Follows_begin : CalM P w K CA mg base 3 "begin" 4 m_Follows_begin [] []) (c_spawn_for : Cal P w K CA mg base "spawn_for" 2 m_spawn_for [] []) (c_name_of : Cal P w K CA mg base "name_of" 1 m_name_of [] []) (c_Follows_joined : CalM P w K CA mg base 3 "joined" 2 m_Follows_joined [] []) (c_Follows_take : CalM P w K CA mg base 3 "take" 2 m_Follows_take [] []) : FnOk P w K mg base CX0 10 f fd ["program", "inputs", "weaving", "pair"] (spOf ⟨K, CA⟩ m_turned) :=
  def_ok F sc_turned rfl rfl fun cdv A outer s H E hr => ⟨_, sss_cons (ss_st (i := 4) sc_turned.nd (k_call K rfl c_events hr (sa_cons (se_var (pv 0)) (sa_cons (se_var (pv 1)) (sa_cons (se_var (pv 2)) (sa_nil)))))) (sss_cons (ss_st (i := 5) sc_turned.nd (k_call K rfl c_least_log hr (sa_cons (se_var (pv 0)) (sa_cons (se_var (pv 1)) (sa_cons (se_var (pv 2)) (sa_nil)))))) (sss_cons (ss_if (st_cmp (k_notIn K rfl hr) (se_var (pv 3)) (k_ix K rfl hr (se_var (pv 5)) (se_int))) (sss_no) (sss_nil)) (sss_cons (ss_st (i := 6) sc_turned.nd (se_newT)) (sss_cons (ss_for .never rfl (k_seq K rfl (k_ix K rfl hr (se_var (pv 5)) (se_int))) (k_htup K rfl rfl (shs_cons (sh_nm (i := 8) sc_turned.nd) (shs_cons (sh_nm (i := 9) sc_turned.nd) (shs_nil)))) (sss_one (ss_if (st_cmp (k_ne K rfl hr) (se_tup (sa_cons (se_var (pv 8)) (sa_cons (se_var (pv 9)) (sa_nil)))) (se_var (pv 3))) (sss_one (ss_expr (k_lm K rfl PySem.F.plainAttrs_list PySem.F.slot_list_append PySem.F.type_list_append m_append (se_setd hr (se_var (pv 6)) (se_var (pv 9)) (se_lst (sa_nil))) (sa_cons (se_var (pv 8)) (sa_nil))))) (sss_nil)))) (sss_cons (ss_par (sa_cons (k_call K rfl c_names_in hr (sa_cons (se_var (pv 2)) (sa_nil))) (sa_cons (k_make K rfl c_Follows_init hr (sa_cons (se_var (pv 4)) (sa_nil))) (sa_nil))) (fun h => ps_par (i := 10) (j := 11) rfl sc_turned.nd rfl rfl (by decide) rfl rfl h (by rfl))) (sss_cons (ss_asg (se_tup (sa_cons (k_ix K rfl hr (se_var (pv 10)) (k_ix K rfl hr (se_var (pv 3)) (se_int))) (sa_cons (se_int) (sa_nil)))) (k_htup K rfl rfl (shs_cons (sh_nm (i := 12) sc_turned.nd) (shs_cons (sh_nm (i := 13) sc_turned.nd) (shs_nil))))) (sss_cons (ss_for .never rfl (si_rng1 Z.b_range (sa_cons (se_op (k_add K rfl) (se_var (pv 12)) (se_int)) (sa_nil))) (sh_nm (i := 7) sc_turned.nd) (sss_cons (ss_st (i := 13) sc_turned.nd (k_meth K rfl c_Follows_begin hr (se_var (pv 11)) (sa_cons (se_var (pv 7)) (sa_cons (se_and (se_cmp (k_eq K rfl hr) (se_var (pv 7)) (se_var (pv 12))) (se_one (se_cmp (k_eq K rfl hr) (k_ix K rfl hr (se_var (pv 10)) (k_ix K rfl hr (se_var (pv 3)) (se_int))) (k_call K rfl c_spawn_for hr (sa_cons (se_var (pv 4)) (sa_cons (se_var (pv 7)) (sa_nil))))))) (sa_nil))))) (sss_cons (ss_for .never rfl (k_seq K rfl (se_get2 hr (se_var (pv 6)) (k_call K rfl c_name_of hr (sa_cons (k_ix K rfl hr (se_var (pv 4)) (se_var (pv 7))) (sa_nil))) (se_lst (sa_nil)))) (sh_nm (i := 8) sc_turned.nd) (sss_one (ss_st (i := 13) sc_turned.nd (k_meth K rfl c_Follows_joined hr (se_var (pv 11)) (sa_cons (se_var (pv 7)) (sa_cons (se_var (pv 13)) (sa_cons (k_ix K rfl hr (se_var (pv 10)) (se_var (pv 8))) (sa_nil)))))))) (sss_one (ss_expr (k_meth K rfl c_Follows_take hr (se_var (pv 11)) (sa_cons (se_var (pv 7)) (sa_cons (se_var (pv 13)) (sa_nil))))))))) (sss_one (ss_ret (se_op (k_add K rfl) (se_ct (k_tuple K rfl) Z.b_tuple boot_tuple (sa_cons (se_lc rfl sc_turned.nd (si_rng1 Z.b_range (sa_cons (se_var (pv 12)) (sa_nil))) (blkOk_by (own := [("at", 14)]) (by rfl)) rfl (fun _ _ _ _ _ => sh_nm (i := 14) sc_turned.nd) (fun _ _ _ _ _ => sts_one (st_cmp (k_eq K rfl hr) (se_op o_and (se_op o_shr (se_var (pv 13)) (se_var (pv 14))) (se_int)) (se_int))) (fun _ _ _ _ _ => k_ix K rfl hr (se_var (pv 2)) (se_var (pv 14)))) (sa_nil))) (se_tup (sa_cons (k_ix K rfl hr (se_var (pv 2)) (se_var (pv 12))) (sa_nil)))))))))))))⟩
theorem sc_is_event_name : FnScope ["counts", "value", "one"] ["counts", "value"] (defScope s_is_event_name) := ⟨rfl, rfl, rfl, by decide +kernel, rfl, by decide +kernel, by decide +kernel⟩
theorem ok_is_event_name (Z : Fx K CA mg) (F : FunD K "is_event_name" "is_event_name" (defArgs s_is_event_name) (defBody s_is_event_name) (defScope s_is_event_name) [] [] f fd) (c_is_whole : Cal P w K CA mg base "is_whole" 1 m_is_whole [] []) : FnOk P w K mg base CX0 2 f fd ["counts", "value"] (spOf ⟨K, CA⟩ m_is_event_name) :=
  def_ok F sc_is_event_name rfl rfl fun cdv A outer s H E hr => ⟨_, sss_cons (ss_if (SW.st (sw_or (st_not (st_val (k_isi K rfl (t := 5) (by decide) (by decide) Z.b_isinstance Z.b_tuple boot_tuple (se_var (pv 1))))) (sw_or (st_cmp (k_ne K rfl hr) (se_cb (k_len K rfl) Z.b_len boot_len (sa_cons (se_var (pv 1)) (sa_nil))) (se_int)) (sw_or1 (st_not (st_val (se_cb (k_all K rfl rfl) Z.b_all boot_all (sa_cons (se_lc rfl sc_is_event_name.nd (k_seq K rfl (se_var (pv 1))) (blkOk_by (own := [("one", 2)]) (by rfl)) rfl (fun _ _ _ _ _ => sh_nm (i := 2) sc_is_event_name.nd) (fun _ _ _ _ _ => sts_nil) (fun _ _ _ _ _ => k_call K rfl c_is_whole hr (sa_cons (se_var (pv 2)) (sa_nil)))) (sa_nil))))))))) (sss_one (ss_ret (se_bl))) (sss_nil)) (sss_one (ss_ret (se_and (se_chn o_le o_lt (se_int) (k_ix K rfl hr (se_var (pv 1)) (se_int)) (se_cb (k_len K rfl) Z.b_len boot_len (sa_cons (se_var (pv 0)) (sa_nil)))) (se_one (se_chn o_le o_lt (se_int) (k_ix K rfl hr (se_var (pv 1)) (se_int)) (k_ix K rfl hr (se_var (pv 0)) (k_ix K rfl hr (se_var (pv 1)) (se_int))))))))⟩
theorem sc_is_log : FnScope ["value", "counts", "pairs", "pair", "one", "row", "two"] ["value"] (defScope s_is_log) := ⟨rfl, rfl, rfl, by decide +kernel, rfl, by decide +kernel, by decide +kernel⟩
theorem ok_is_log (Z : Fx K CA mg) (F : FunD K "is_log" "is_log" (defArgs s_is_log) (defBody s_is_log) (defScope s_is_log) [] [] f fd) (c_is_whole : Cal P w K CA mg base "is_whole" 1 m_is_whole [] []) (c_is_event_name : Cal P w K CA mg base "is_event_name" 2 m_is_event_name [] []) : FnOk P w K mg base CX0 3 f fd ["value"] (spOf ⟨K, CA⟩ m_is_log) :=
  def_ok F sc_is_log rfl rfl fun cdv A outer s H E hr => ⟨_, sss_cons (ss_if (SW.st (sw_or (st_not (st_val (k_isi K rfl (t := 5) (by decide) (by decide) Z.b_isinstance Z.b_tuple boot_tuple (se_var (pv 0))))) (sw_or (st_cmp (k_ne K rfl hr) (se_cb (k_len K rfl) Z.b_len boot_len (sa_cons (se_var (pv 0)) (sa_nil))) (se_int)) (sw_or1 (st_not (st_val (se_cb (k_all K rfl rfl) Z.b_all boot_all (sa_cons (se_lc rfl sc_is_log.nd (k_seq K rfl (se_var (pv 0))) (blkOk_by (own := [("row", 5)]) (by rfl)) rfl (fun _ _ _ _ _ => sh_nm (i := 5) sc_is_log.nd) (fun _ _ _ _ _ => sts_nil) (fun _ _ _ _ _ => k_isi K rfl (t := 5) (by decide) (by decide) Z.b_isinstance Z.b_tuple boot_tuple (se_var (pv 5)))) (sa_nil))))))))) (sss_one (ss_ret (se_bl))) (sss_nil)) (sss_cons (ss_asg (se_var (pv 0)) (k_htup K rfl rfl (shs_cons (sh_nm (i := 1) sc_is_log.nd) (shs_cons (sh_nm (i := 2) sc_is_log.nd) (shs_nil))))) (sss_cons (ss_if (SW.st (sw_or (st_cmp o_gt (se_cb (k_len K rfl) Z.b_len boot_len (sa_cons (se_var (pv 1)) (sa_nil))) ((se_const Z.g_MOST_THREADS fun _ => rfl))) (sw_or1 (st_not (st_val (se_cb (k_all K rfl rfl) Z.b_all boot_all (sa_cons (se_lc rfl sc_is_log.nd (k_seq K rfl (se_var (pv 1))) (blkOk_by (own := [("one", 4)]) (by rfl)) rfl (fun _ _ _ _ _ => sh_nm (i := 4) sc_is_log.nd) (fun _ _ _ _ _ => sts_nil) (fun _ _ _ _ _ => se_and (k_call K rfl c_is_whole hr (sa_cons (se_var (pv 4)) (sa_nil))) (se_one (se_chn o_le o_le (se_int) (se_var (pv 4)) ((se_const Z.g_MOST_STEPS fun _ => rfl)))))) (sa_nil)))))))) (sss_one (ss_ret (se_bl))) (sss_nil)) (sss_cons (ss_if (st_not (st_val (se_cb (k_all K rfl rfl) Z.b_all boot_all (sa_cons (se_lc rfl sc_is_log.nd (k_seq K rfl (se_var (pv 2))) (blkOk_by (own := [("pair", 3)]) (by rfl)) rfl (fun _ _ _ _ _ => sh_nm (i := 3) sc_is_log.nd) (fun _ _ _ _ _ => sts_nil) (fun _ _ _ _ _ => se_and (k_isi K rfl (t := 5) (by decide) (by decide) Z.b_isinstance Z.b_tuple boot_tuple (se_var (pv 3))) (se_one (se_cmp (k_eq K rfl hr) (se_cb (k_len K rfl) Z.b_len boot_len (sa_cons (se_var (pv 3)) (sa_nil))) (se_int))))) (sa_nil))))) (sss_one (ss_ret (se_bl))) (sss_nil)) (sss_cons (ss_if (st_not (st_val (se_cb (k_all K rfl rfl) Z.b_all boot_all (sa_cons (se_lc2 rfl sc_is_log.nd (k_seq K rfl (se_var (pv 2))) (blkOk_by (own := [("pair", 3), ("one", 4)]) (by rfl)) (by decide) rfl rfl (fun _ _ _ _ _ => sh_nm (i := 3) sc_is_log.nd) (fun _ _ _ _ _ => sts_nil) (fun _ _ _ _ _ => k_seq K rfl (se_var (pv 3))) (fun _ _ _ _ _ => sh_nm (i := 4) sc_is_log.nd) (fun _ _ _ _ _ => sts_nil) (fun _ _ _ _ _ => k_call K rfl c_is_event_name hr (sa_cons (se_var (pv 1)) (sa_cons (se_var (pv 4)) (sa_nil))))) (sa_nil))))) (sss_one (ss_ret (se_bl))) (sss_nil)) (sss_one (ss_ret (se_and (se_cmp (k_eq K rfl hr) (se_ct (k_list K rfl) Z.b_list boot_list (sa_cons (se_var (pv 2)) (sa_nil))) (k_srtK K rfl hr rfl sc_is_log.nd (i := 3) Z.b_sorted (se_var (pv 2)) (blkOk_by (own := [("pair", 3)]) (by rfl)) (fun _ _ _ _ _ => sh_nm (i := 3) sc_is_log.nd) (fun _ _ _ _ _ => se_var (pv 3)) (show (3 : Nat) < 7 by decide))) (se_one (se_cb (k_all K rfl rfl) Z.b_all boot_all (sa_cons (se_lc rfl sc_is_log.nd (k_seq K rfl (se_var (pv 2))) (blkOk_by (own := [("one", 4), ("two", 6)]) (by rfl)) rfl (fun _ _ _ _ _ => k_htup K rfl rfl (shs_cons (sh_nm (i := 4) sc_is_log.nd) (shs_cons (sh_nm (i := 6) sc_is_log.nd) (shs_nil)))) (fun _ _ _ _ _ => sts_nil) (fun _ _ _ _ _ => se_cmp (k_ne K rfl hr) (k_ix K rfl hr (se_var (pv 4)) (se_int)) (k_ix K rfl hr (se_var (pv 6)) (se_int)))) (sa_nil)))))))))))⟩
theorem sc_look_at_log : FnScope ["value"] ["value"] (defScope s_look_at_log) := ⟨rfl, rfl, rfl, by decide +kernel, rfl, by decide +kernel, by decide +kernel⟩
theorem ok_look_at_log (Z : Fx K CA mg) (F : FunD K "look_at_log" "look_at_log" (defArgs s_look_at_log) (defBody s_look_at_log) (defScope s_look_at_log) [] [] f fd) (c_is_log : Cal P w K CA mg base "is_log" 3 m_is_log [] []) : FnOk P w K mg base CX0 4 f fd ["value"] (spOf ⟨K, CA⟩ m_look_at_log) :=
  def_ok F sc_look_at_log rfl rfl fun cdv A outer s H E hr => ⟨_, sss_one (ss_if (st_not (st_val (k_call K rfl c_is_log hr (sa_cons (se_var (pv 0)) (sa_nil))))) (sss_no) (sss_nil))⟩
theorem sc_fits : FnScope ["program", "inputs", "value", "machine", "thread"] ["program", "inputs", "value"] (defScope s_fits) := ⟨rfl, rfl, rfl, by decide +kernel, rfl, by decide +kernel, by decide +kernel⟩
theorem ok_fits (Z : Fx K CA mg) (F : FunD K "fits" "fits" (defArgs s_fits) (defBody s_fits) (defScope s_fits) [] [] f fd) (c_is_weaving : Cal P w K CA mg base "is_weaving" 2 m_is_weaving [] []) (c_Machine_init : CalI P w K CA mg base 1 "Machine" 3 m_Machine_init [] []) (c_Machine_may_go : CalM P w K CA mg base 1 "may_go" 3 m_Machine_may_go [] []) (c_Machine_step : CalM P w K CA mg base 1 "step" 6 m_Machine_step [] []) : FnOk P w K mg base CX0 7 f fd ["program", "inputs", "value"] (spOf ⟨K, CA⟩ m_fits) :=
  def_ok F sc_fits rfl rfl fun cdv A outer s H E hr => ⟨_, sss_cons (ss_if (st_not (st_val (k_call K rfl c_is_weaving hr (sa_cons (se_var (pv 2)) (sa_nil))))) (sss_one (ss_ret (se_bl))) (sss_nil)) (sss_cons (ss_st (i := 3) sc_fits.nd (k_make K rfl c_Machine_init hr (sa_cons (se_var (pv 0)) (sa_cons (se_var (pv 1)) (sa_nil))))) (sss_cons (ss_for .never rfl (k_seq K rfl (se_var (pv 2))) (sh_nm (i := 4) sc_fits.nd) (sss_cons (ss_if (st_cmp (k_notIn K rfl hr) (se_var (pv 4)) (k_meth0 K rfl c_Machine_may_go hr (se_var (pv 3)))) (sss_one (ss_ret (se_bl))) (sss_nil)) (sss_one (ss_expr (k_meth K rfl c_Machine_step hr (se_var (pv 3)) (sa_cons (se_var (pv 4)) (sa_nil))))))) (sss_one (ss_ret (se_bl)))))⟩
theorem sc_turned_right : FnScope ["program", "inputs", "log", "pair", "value", "names", "others", "row", "one", "two"] ["program", "inputs", "log", "pair", "value"] (defScope s_turned_right) := ⟨rfl, rfl, rfl, by decide +kernel, rfl, by decide +kernel, by decide +kernel⟩
theorem ok_turned_right (Z : Fx K CA mg) (F : FunD K "turned_right" "turned_right" (defArgs s_turned_right) (defBody s_turned_right) (defScope s_turned_right) [] [] f fd) (c_look_at_log : Cal P w K CA mg base "look_at_log" 4 m_look_at_log [] []) (c_is_weaving : Cal P w K CA mg base "is_weaving" 2 m_is_weaving [] []) (c_fits : Cal P w K CA mg base "fits" 7 m_fits [] []) (c_names_in : Cal P w K CA mg base "names_in" 1 m_names_in [] []) : FnOk P w K mg base CX0 8 f fd ["program", "inputs", "log", "pair", "value"] (spOf ⟨K, CA⟩ m_turned_right) :=
  def_ok F sc_turned_right rfl rfl fun cdv A outer s H E hr => ⟨_, sss_cons (ss_expr (k_call K rfl c_look_at_log hr (sa_cons (se_var (pv 2)) (sa_nil)))) (sss_cons (ss_if (SW.st (sw_or (st_cmp (k_notIn K rfl hr) (se_var (pv 3)) (k_ix K rfl hr (se_var (pv 2)) (se_int))) (sw_or (st_not (st_val (k_call K rfl c_is_weaving hr (sa_cons (se_var (pv 4)) (sa_nil))))) (sw_or1 (st_not (st_val (k_call K rfl c_fits hr (sa_cons (se_var (pv 0)) (sa_cons (se_var (pv 1)) (sa_cons (se_var (pv 4)) (sa_nil))))))))))) (sss_one (ss_ret (se_bl))) (sss_nil)) (sss_cons (ss_st (i := 5) sc_turned_right.nd (k_call K rfl c_names_in hr (sa_cons (se_var (pv 4)) (sa_nil)))) (sss_cons (ss_if (SW.st (sw_or (st_cmp (k_notIn K rfl hr) (k_ix K rfl hr (se_var (pv 3)) (se_int)) (se_var (pv 5))) (sw_or1 (SW.st (sw_and (st_cmp (k_in K rfl hr) (k_ix K rfl hr (se_var (pv 3)) (se_int)) (se_var (pv 5))) (sw_and1 (st_cmp o_lt (k_ix K rfl hr (se_var (pv 5)) (k_ix K rfl hr (se_var (pv 3)) (se_int))) (k_ix K rfl hr (se_var (pv 5)) (k_ix K rfl hr (se_var (pv 3)) (se_int)))))))))) (sss_one (ss_ret (se_bl))) (sss_nil)) (sss_cons (ss_setLc (i := 6) rfl sc_turned_right.nd rfl rfl (sw_true rfl rfl rfl rfl) (k_seq K rfl (k_ix K rfl hr (se_var (pv 2)) (se_int))) (blkOk_by (own := [("row", 7)]) (by rfl)) rfl (fun _ _ _ _ _ => sh_nm (i := 7) sc_turned_right.nd) (fun _ _ _ _ _ => sts_one (st_cmp (k_ne K rfl hr) (se_var (pv 7)) (se_var (pv 3)))) (fun _ _ _ _ _ => se_var (pv 7))) (sss_one (ss_ret (se_cb (k_all K rfl rfl) Z.b_all boot_all (sa_cons (se_lc rfl sc_turned_right.nd (k_seq K rfl (se_var (pv 6))) (blkOk_by (own := [("one", 8), ("two", 9)]) (by rfl)) rfl (fun _ _ _ _ _ => k_htup K rfl rfl (shs_cons (sh_nm (i := 8) sc_turned_right.nd) (shs_cons (sh_nm (i := 9) sc_turned_right.nd) (shs_nil)))) (fun _ _ _ _ _ => sts_nil) (fun _ _ _ _ _ => se_or (se_cmp (k_notIn K rfl hr) (se_var (pv 9)) (se_var (pv 5))) (se_one (se_and (se_cmp (k_in K rfl hr) (se_var (pv 8)) (se_var (pv 5))) (se_one (se_cmp o_lt (k_ix K rfl hr (se_var (pv 5)) (se_var (pv 8))) (k_ix K rfl hr (se_var (pv 5)) (se_var (pv 9))))))))) (sa_nil)))))))))⟩
theorem sc_picture : FnScope ["machine", "threads", "frames", "value", "rows", "name", "index", "own", "stack"] ["machine"] (defScope s_picture) := ⟨rfl, rfl, rfl, by decide +kernel, rfl, by decide +kernel, by decide +kernel⟩
theorem ok_picture (Z : Fx K CA mg) (F : FunD K "picture" "picture" (defArgs s_picture) (defBody s_picture) (defScope s_picture) [] [] f fd) : FnOk P w K mg base CX0 1 f fd ["machine"] (spOf ⟨K, CA⟩ m_picture) :=
  def_ok F sc_picture rfl rfl fun cdv A outer s H E hr => ⟨_, sss_cons (ss_st (i := 1) sc_picture.nd (se_lst (sa_nil))) (sss_cons (ss_for .never rfl (k_seq K rfl (k_fld K rfl Z.c1 Z.na1_threads (se_var (pv 0)))) (k_htup K rfl rfl (shs_cons (sh_nm (i := 2) sc_picture.nd) (shs_cons (sh_nm (i := 3) sc_picture.nd) (shs_nil)))) (sss_cons (ss_st (i := 4) sc_picture.nd (se_ct (k_tuple K rfl) Z.b_tuple boot_tuple (sa_cons (se_lc rfl sc_picture.nd (k_seq K rfl (se_var (pv 2))) (blkOk_by (own := [("name", 5), ("index", 6), ("own", 7), ("stack", 8)]) (by rfl)) rfl (fun _ _ _ _ _ => k_htup K rfl rfl (shs_cons (sh_nm (i := 5) sc_picture.nd) (shs_cons (sh_nm (i := 6) sc_picture.nd) (shs_cons (sh_nm (i := 7) sc_picture.nd) (shs_cons (sh_nm (i := 8) sc_picture.nd) (shs_nil)))))) (fun _ _ _ _ _ => sts_nil) (fun _ _ _ _ _ => se_tup (sa_cons (se_var (pv 5)) (sa_cons (se_var (pv 6)) (sa_cons (se_ct (k_tuple K rfl) Z.b_tuple boot_tuple (sa_cons (se_var (pv 7)) (sa_nil))) (sa_cons (se_ct (k_tuple K rfl) Z.b_tuple boot_tuple (sa_cons (se_var (pv 8)) (sa_nil))) (sa_nil))))))) (sa_nil)))) (sss_one (ss_expr (k_lm K rfl PySem.F.plainAttrs_list PySem.F.slot_list_append PySem.F.type_list_append m_append (se_var (pv 1)) (sa_cons (se_tup (sa_cons (se_var (pv 4)) (sa_cons (se_var (pv 3)) (sa_nil)))) (sa_nil))))))) (sss_one (ss_ret (se_tup (sa_cons (se_ct (k_tuple K rfl) Z.b_tuple boot_tuple (sa_cons (se_var (pv 1)) (sa_nil))) (sa_cons (se_ct (k_tuple K rfl) Z.b_tuple boot_tuple (sa_cons (k_fld K rfl Z.c1 Z.na1_cells (se_var (pv 0))) (sa_nil))) (sa_cons (se_ct (k_tuple K rfl) Z.b_tuple boot_tuple (sa_cons (k_fld K rfl Z.c1 Z.na1_owners (se_var (pv 0))) (sa_nil))) (sa_cons (k_fld K rfl Z.c1 Z.na1_asked (se_var (pv 0))) (sa_cons (se_ct (k_tuple K rfl) Z.b_tuple boot_tuple (sa_cons (k_fld K rfl Z.c1 Z.na1_said (se_var (pv 0))) (sa_nil))) (sa_cons (k_fld K rfl Z.c1 Z.na1_steps (se_var (pv 0))) (sa_cons (k_fld K rfl Z.c1 Z.na1_end (se_var (pv 0))) (sa_nil))))))))))))⟩
theorem sc_run : FnScope ["program", "inputs", "weaving", "machine", "thread"] ["program", "inputs", "weaving"] (defScope s_run) := ⟨rfl, rfl, rfl, by decide +kernel, rfl, by decide +kernel, by decide +kernel⟩
theorem ok_run (Z : Fx K CA mg) (F : FunD K "run" "run" (defArgs s_run) (defBody s_run) (defScope s_run) [] [] f fd) (c_look_at_weaving : Cal P w K CA mg base "look_at_weaving" 3 m_look_at_weaving [] []) (c_Machine_init : CalI P w K CA mg base 1 "Machine" 3 m_Machine_init [] []) (c_Machine_step : CalM P w K CA mg base 1 "step" 6 m_Machine_step [] []) : FnOk P w K mg base CX0 7 f fd ["program", "inputs", "weaving"] (spOf ⟨K, CA⟩ m_run) :=
  def_ok F sc_run rfl rfl fun cdv A outer s H E hr => ⟨_, sss_cons (ss_expr (k_call K rfl c_look_at_weaving hr (sa_cons (se_var (pv 2)) (sa_nil)))) (sss_cons (ss_st (i := 3) sc_run.nd (k_make K rfl c_Machine_init hr (sa_cons (se_var (pv 0)) (sa_cons (se_var (pv 1)) (sa_nil))))) (sss_cons (ss_for .never rfl (k_seq K rfl (se_var (pv 2))) (sh_nm (i := 4) sc_run.nd) (sss_one (ss_expr (k_meth K rfl c_Machine_step hr (se_var (pv 3)) (sa_cons (se_var (pv 4)) (sa_nil)))))) (sss_one (ss_ret (se_var (pv 3))))))⟩
theorem sc_may_do : FnScope ["log", "needs", "done", "thread", "last", "number", "one"] ["log", "needs", "done", "thread", "last"] (defScope s_may_do) := ⟨rfl, rfl, rfl, by decide +kernel, rfl, by decide +kernel, by decide +kernel⟩
theorem ok_may_do (Z : Fx K CA mg) (F : FunD K "may_do" "may_do" (defArgs s_may_do) (defBody s_may_do) (defScope s_may_do) [] [] f fd) : FnOk P w K mg base CX0 1 f fd ["log", "needs", "done", "thread", "last"] (spOf ⟨K, CA⟩ m_may_do) :=
  def_ok F sc_may_do rfl rfl fun cdv A outer s H E hr => ⟨_, sss_cons (ss_st (i := 5) sc_may_do.nd (se_get2 hr (se_var (pv 2)) (se_var (pv 3)) (se_int))) (sss_cons (ss_if (SW.st (sw_or (st_cmp o_ge (se_var (pv 3)) (se_cb (k_len K rfl) Z.b_len boot_len (sa_cons (k_ix K rfl hr (se_var (pv 0)) (se_int)) (sa_nil)))) (sw_or1 (st_cmp o_ge (se_var (pv 5)) (k_ix K rfl hr (k_ix K rfl hr (se_var (pv 0)) (se_int)) (se_var (pv 3))))))) (sss_one (ss_ret (se_bl))) (sss_nil)) (sss_cons (ss_if (SW.st (sw_and (st_cmp (k_eq K rfl hr) (se_var (pv 3)) (se_var (pv 4))) (sw_and (st_cmp (k_eq K rfl hr) (se_var (pv 5)) (se_op o_sub (k_ix K rfl hr (k_ix K rfl hr (se_var (pv 0)) (se_int)) (se_var (pv 3))) (se_int))) (sw_and1 (st_cmp o_lt (k_sumV K rfl rfl Z.b_sum (se_var (pv 2))) (se_op o_sub (se_cb (k_sumA K rfl rfl) Z.b_sum boot_sum (sa_cons (k_ix K rfl hr (se_var (pv 0)) (se_int)) (sa_nil))) (se_int))))))) (sss_one (ss_ret (se_bl))) (sss_nil)) (sss_one (ss_ret (se_cb (k_all K rfl rfl) Z.b_all boot_all (sa_cons (se_lc rfl sc_may_do.nd (k_seq K rfl (se_get2 hr (se_var (pv 1)) (se_tup (sa_cons (se_var (pv 3)) (sa_cons (se_var (pv 5)) (sa_nil)))) (se_lst (sa_nil)))) (blkOk_by (own := [("one", 6)]) (by rfl)) rfl (fun _ _ _ _ _ => sh_nm (i := 6) sc_may_do.nd) (fun _ _ _ _ _ => sts_nil) (fun _ _ _ _ _ => se_cmp o_gt (se_get2 hr (se_var (pv 2)) (k_ix K rfl hr (se_var (pv 6)) (se_int)) (se_int)) (k_ix K rfl hr (se_var (pv 6)) (se_int)))) (sa_nil)))))))⟩
theorem sc_faults_at_last : FnScope ["program", "inputs", "log", "thread", "needs", "_", "machine", "done", "one", "two", "going"] ["program", "inputs", "log", "thread"] (defScope s_faults_at_last) := ⟨rfl, rfl, rfl, by decide +kernel, rfl, by decide +kernel, by decide +kernel⟩
theorem ok_faults_at_last (Z : Fx K CA mg) (F : FunD K "faults_at_last" "faults_at_last" (defArgs s_faults_at_last) (defBody s_faults_at_last) (defScope s_faults_at_last) [] [] f fd) (c_Machine_init : CalI P w K CA mg base 1 "Machine" 3 m_Machine_init [] []) (c_Machine_may_go : CalM P w K CA mg base 1 "may_go" 3 m_Machine_may_go [] []) (c_may_do : Cal P w K CA mg base "may_do" 1 m_may_do [] []) (c_Machine_step : CalM P w K CA mg base 1 "step" 6 m_Machine_step [] []) : FnOk P w K mg base CX0 7 f fd ["program", "inputs", "log", "thread"] (spOf ⟨K, CA⟩ m_faults_at_last) :=
  def_ok F sc_faults_at_last rfl rfl fun cdv A outer s H E hr => ⟨_, sss_cons (ss_asg (se_tup (sa_cons (k_make K rfl c_Machine_init hr (sa_cons (se_var (pv 0)) (sa_cons (se_var (pv 1)) (sa_nil)))) (sa_cons (se_newK) (sa_nil)))) (k_htup K rfl rfl (shs_cons (sh_nm (i := 6) sc_faults_at_last.nd) (shs_cons (sh_nm (i := 7) sc_faults_at_last.nd) (shs_nil))))) (sss_cons (ss_st (i := 4) sc_faults_at_last.nd (se_newT)) (sss_cons (ss_for .never rfl (k_seq K rfl (k_ix K rfl hr (se_var (pv 2)) (se_int))) (k_htup K rfl rfl (shs_cons (sh_nm (i := 8) sc_faults_at_last.nd) (shs_cons (sh_nm (i := 9) sc_faults_at_last.nd) (shs_nil)))) (sss_one (ss_expr (k_lm K rfl PySem.F.plainAttrs_list PySem.F.slot_list_append PySem.F.type_list_append m_append (se_setd hr (se_var (pv 4)) (se_var (pv 9)) (se_lst (sa_nil))) (sa_cons (se_var (pv 8)) (sa_nil)))))) (sss_cons (ss_for .never rfl (si_rng1 Z.b_range (sa_cons (se_cb (k_sumA K rfl rfl) Z.b_sum boot_sum (sa_cons (k_ix K rfl hr (se_var (pv 2)) (se_int)) (sa_nil))) (sa_nil))) (sh_nm (i := 5) sc_faults_at_last.nd) (sss_cons (ss_setLc (i := 10) rfl sc_faults_at_last.nd rfl rfl (sw_true rfl rfl rfl rfl) (k_seq K rfl (k_meth0 K rfl c_Machine_may_go hr (se_var (pv 6)))) (blkOk_by (own := [("one", 8)]) (by rfl)) rfl (fun _ _ _ _ _ => sh_nm (i := 8) sc_faults_at_last.nd) (fun _ _ _ _ _ => sts_one (st_val (k_call K rfl c_may_do hr (sa_cons (se_var (pv 2)) (sa_cons (se_var (pv 4)) (sa_cons (se_var (pv 7)) (sa_cons (se_var (pv 8)) (sa_cons (se_var (pv 3)) (sa_nil))))))))) (fun _ _ _ _ _ => se_var (pv 8))) (sss_cons (ss_if (st_cmp (k_eq K rfl hr) (se_cb (k_len K rfl) Z.b_len boot_len (sa_cons (se_var (pv 10)) (sa_nil))) (se_int)) (sss_one (ss_ret (se_bl))) (sss_nil)) (sss_cons (ss_expr (k_meth K rfl c_Machine_step hr (se_var (pv 6)) (sa_cons (k_ix K rfl hr (se_var (pv 10)) (se_int)) (sa_nil)))) (sss_one (ss_asg (se_op (k_add K rfl) (se_get2 hr (se_var (pv 7)) (k_ix K rfl hr (se_var (pv 10)) (se_int)) (se_int)) (se_int)) (sh_sub hr (se_var (pv 7)) (k_ix K rfl hr (se_var (pv 10)) (se_int))))))))) (sss_one (ss_ret (se_and (se_cmp o_isnt (k_fld K rfl Z.c1 Z.na1_end (se_var (pv 6))) (se_non)) (se_and (se_cmp (k_eq K rfl hr) (k_ix K rfl hr (k_fld K rfl Z.c1 Z.na1_end (se_var (pv 6))) (se_int)) (se_str)) (se_one (se_cmp (k_eq K rfl hr) (k_ix K rfl hr (k_fld K rfl Z.c1 Z.na1_end (se_var (pv 6))) (se_int)) (se_var (pv 3)))))))))))⟩
theorem sc_last_of : FnScope ["program", "inputs", "log", "thread"] ["program", "inputs", "log"] (defScope s_last_of) := ⟨rfl, rfl, rfl, by decide +kernel, rfl, by decide +kernel, by decide +kernel⟩
theorem ok_last_of (Z : Fx K CA mg) (F : FunD K "last_of" "last_of" (defArgs s_last_of) (defBody s_last_of) (defScope s_last_of) [] [] f fd) (c_faults_at_last : Cal P w K CA mg base "faults_at_last" 7 m_faults_at_last [] []) : FnOk P w K mg base CX0 8 f fd ["program", "inputs", "log"] (spOf ⟨K, CA⟩ m_last_of) :=
  def_ok F sc_last_of rfl rfl fun cdv A outer s H E hr => ⟨_, sss_cons (ss_for .never rfl (si_rng1 Z.b_range (sa_cons (se_cb (k_len K rfl) Z.b_len boot_len (sa_cons (k_ix K rfl hr (se_var (pv 2)) (se_int)) (sa_nil))) (sa_nil))) (sh_nm (i := 3) sc_last_of.nd) (sss_one (ss_if (st_val (k_call K rfl c_faults_at_last hr (sa_cons (se_var (pv 0)) (sa_cons (se_var (pv 1)) (sa_cons (se_var (pv 2)) (sa_cons (se_var (pv 3)) (sa_nil))))))) (sss_one (ss_ret (se_var (pv 3)))) (sss_nil)))) (sss_one (ss_ret (se_non)))⟩
theorem sc_woven : FnScope ["program", "inputs", "log", "draws", "needs", "last", "machine", "done", "found", "one", "two", "going", "thread"] ["program", "inputs", "log", "draws"] (defScope s_woven) := ⟨rfl, rfl, rfl, by decide +kernel, rfl, by decide +kernel, by decide +kernel⟩
theorem ok_woven (Z : Fx K CA mg) (F : FunD K "woven" "woven" (defArgs s_woven) (defBody s_woven) (defScope s_woven) [] [] f fd) (c_look_at_log : Cal P w K CA mg base "look_at_log" 4 m_look_at_log [] []) (c_is_whole : Cal P w K CA mg base "is_whole" 1 m_is_whole [] []) (c_Machine_init : CalI P w K CA mg base 1 "Machine" 3 m_Machine_init [] []) (c_last_of : Cal P w K CA mg base "last_of" 8 m_last_of [] []) (c_Machine_may_go : CalM P w K CA mg base 1 "may_go" 3 m_Machine_may_go [] []) (c_may_do : Cal P w K CA mg base "may_do" 1 m_may_do [] []) (c_Machine_step : CalM P w K CA mg base 1 "step" 6 m_Machine_step [] []) : FnOk P w K mg base CX0 9 f fd ["program", "inputs", "log", "draws"] (spOf ⟨K, CA⟩ m_woven) :=
  def_ok F sc_woven rfl rfl fun cdv A outer s H E hr => ⟨_, sss_cons (ss_expr (k_call K rfl c_look_at_log hr (sa_cons (se_var (pv 2)) (sa_nil)))) (sss_cons (ss_if (SW.st (sw_or (st_not (st_val (k_isi K rfl (t := 5) (by decide) (by decide) Z.b_isinstance Z.b_tuple boot_tuple (se_var (pv 3))))) (sw_or1 (st_not (st_val (se_cb (k_all K rfl rfl) Z.b_all boot_all (sa_cons (se_lc rfl sc_woven.nd (k_seq K rfl (se_var (pv 3))) (blkOk_by (own := [("one", 9)]) (by rfl)) rfl (fun _ _ _ _ _ => sh_nm (i := 9) sc_woven.nd) (fun _ _ _ _ _ => sts_nil) (fun _ _ _ _ _ => se_and (k_call K rfl c_is_whole hr (sa_cons (se_var (pv 9)) (sa_nil))) (se_one (se_cmp o_ge (se_var (pv 9)) (se_int))))) (sa_nil)))))))) (sss_no) (sss_nil)) (sss_cons (ss_asg (se_tup (sa_cons (k_make K rfl c_Machine_init hr (sa_cons (se_var (pv 0)) (sa_cons (se_var (pv 1)) (sa_nil)))) (sa_cons (se_newK) (sa_cons (se_lst (sa_nil)) (sa_nil))))) (k_htup K rfl rfl (shs_cons (sh_nm (i := 6) sc_woven.nd) (shs_cons (sh_nm (i := 7) sc_woven.nd) (shs_cons (sh_nm (i := 8) sc_woven.nd) (shs_nil)))))) (sss_cons (ss_st (i := 4) sc_woven.nd (se_newT)) (sss_cons (ss_for .never rfl (k_seq K rfl (k_ix K rfl hr (se_var (pv 2)) (se_int))) (k_htup K rfl rfl (shs_cons (sh_nm (i := 9) sc_woven.nd) (shs_cons (sh_nm (i := 10) sc_woven.nd) (shs_nil)))) (sss_one (ss_expr (k_lm K rfl PySem.F.plainAttrs_list PySem.F.slot_list_append PySem.F.type_list_append m_append (se_setd hr (se_var (pv 4)) (se_var (pv 10)) (se_lst (sa_nil))) (sa_cons (se_var (pv 9)) (sa_nil)))))) (sss_cons (ss_st (i := 5) sc_woven.nd (k_call K rfl c_last_of hr (sa_cons (se_var (pv 0)) (sa_cons (se_var (pv 1)) (sa_cons (se_var (pv 2)) (sa_nil)))))) (sss_cons (ss_while .never (st_cmp o_lt (se_cb (k_len K rfl) Z.b_len boot_len (sa_cons (se_var (pv 8)) (sa_nil))) (se_cb (k_sumA K rfl rfl) Z.b_sum boot_sum (sa_cons (k_ix K rfl hr (se_var (pv 2)) (se_int)) (sa_nil)))) (sss_cons (ss_setLc (i := 11) rfl sc_woven.nd rfl rfl (sw_true rfl rfl rfl rfl) (k_seq K rfl (k_meth0 K rfl c_Machine_may_go hr (se_var (pv 6)))) (blkOk_by (own := [("thread", 12)]) (by rfl)) rfl (fun _ _ _ _ _ => sh_nm (i := 12) sc_woven.nd) (fun _ _ _ _ _ => sts_one (st_val (k_call K rfl c_may_do hr (sa_cons (se_var (pv 2)) (sa_cons (se_var (pv 4)) (sa_cons (se_var (pv 7)) (sa_cons (se_var (pv 12)) (sa_cons (se_var (pv 5)) (sa_nil))))))))) (fun _ _ _ _ _ => se_var (pv 12))) (sss_cons (ss_if (st_cmp (k_eq K rfl hr) (se_cb (k_len K rfl) Z.b_len boot_len (sa_cons (se_var (pv 11)) (sa_nil))) (se_int)) (sss_no) (sss_nil)) (sss_cons (ss_st (i := 12) sc_woven.nd (se_if (st_cmp o_lt (se_cb (k_len K rfl) Z.b_len boot_len (sa_cons (se_var (pv 8)) (sa_nil))) (se_cb (k_len K rfl) Z.b_len boot_len (sa_cons (se_var (pv 3)) (sa_nil)))) (k_ix K rfl hr (se_var (pv 11)) (se_op o_mod (k_ix K rfl hr (se_var (pv 3)) (se_cb (k_len K rfl) Z.b_len boot_len (sa_cons (se_var (pv 8)) (sa_nil)))) (se_cb (k_len K rfl) Z.b_len boot_len (sa_cons (se_var (pv 11)) (sa_nil))))) (k_ix K rfl hr (se_var (pv 11)) (se_int)))) (sss_cons (ss_expr (k_meth K rfl c_Machine_step hr (se_var (pv 6)) (sa_cons (se_var (pv 12)) (sa_nil)))) (sss_cons (ss_asg (se_op (k_add K rfl) (se_get2 hr (se_var (pv 7)) (se_var (pv 12)) (se_int)) (se_int)) (sh_sub hr (se_var (pv 7)) (se_var (pv 12)))) (sss_one (ss_expr (k_lm K rfl PySem.F.plainAttrs_list PySem.F.slot_list_append PySem.F.type_list_append m_append (se_var (pv 8)) (sa_cons (se_var (pv 12)) (sa_nil))))))))))) (sss_one (ss_ret (se_ct (k_tuple K rfl) Z.b_tuple boot_tuple (sa_cons (se_var (pv 8)) (sa_nil)))))))))))⟩
theorem sc_default_thread : FnScope ["machine", "last", "going", "above", "one"] ["machine", "last"] (defScope s_default_thread) := ⟨rfl, rfl, rfl, by decide +kernel, rfl, by decide +kernel, by decide +kernel⟩
theorem ok_default_thread (Z : Fx K CA mg) (F : FunD K "default_thread" "default_thread" (defArgs s_default_thread) (defBody s_default_thread) (defScope s_default_thread) [] [] f fd) (c_Machine_may_go : CalM P w K CA mg base 1 "may_go" 3 m_Machine_may_go [] []) : FnOk P w K mg base CX0 4 f fd ["machine", "last"] (spOf ⟨K, CA⟩ m_default_thread) :=
  def_ok F sc_default_thread rfl rfl fun cdv A outer s H E hr => ⟨_, sss_cons (ss_st (i := 2) sc_default_thread.nd (k_meth0 K rfl c_Machine_may_go hr (se_var (pv 0)))) (sss_cons (ss_if (st_cmp (k_eq K rfl hr) (se_cb (k_len K rfl) Z.b_len boot_len (sa_cons (se_var (pv 2)) (sa_nil))) (se_int)) (sss_one (ss_ret (se_non))) (sss_nil)) (sss_cons (ss_if (st_cmp (k_in K rfl hr) (se_var (pv 1)) (se_var (pv 2))) (sss_one (ss_ret (se_var (pv 1)))) (sss_nil)) (sss_cons (ss_setLc (i := 3) rfl sc_default_thread.nd rfl rfl (sw_true rfl rfl rfl rfl) (k_seq K rfl (se_var (pv 2))) (blkOk_by (own := [("one", 4)]) (by rfl)) rfl (fun _ _ _ _ _ => sh_nm (i := 4) sc_default_thread.nd) (fun _ _ _ _ _ => sts_one (SW.st (sw_and (st_cmp o_isnt (se_var (pv 1)) (se_non)) (sw_and1 (st_cmp o_gt (se_var (pv 4)) (se_var (pv 1))))))) (fun _ _ _ _ _ => se_var (pv 4))) (sss_one (ss_ret (se_if (st_cmp o_gt (se_cb (k_len K rfl) Z.b_len boot_len (sa_cons (se_var (pv 3)) (sa_nil))) (se_int)) (k_ix K rfl hr (se_var (pv 3)) (se_int)) (k_ix K rfl hr (se_var (pv 2)) (se_int))))))))⟩
theorem sc_by_default : FnScope ["program", "inputs", "most", "machine", "found", "last"] ["program", "inputs", "most"] (defScope s_by_default) := ⟨rfl, rfl, rfl, by decide +kernel, rfl, by decide +kernel, by decide +kernel⟩
theorem ok_by_default (Z : Fx K CA mg) (F : FunD K "by_default" "by_default" (defArgs s_by_default) (defBody s_by_default) (defScope s_by_default) [] [] f fd) (c_is_whole : Cal P w K CA mg base "is_whole" 1 m_is_whole [] []) (c_Machine_init : CalI P w K CA mg base 1 "Machine" 3 m_Machine_init [] []) (c_default_thread : Cal P w K CA mg base "default_thread" 4 m_default_thread [] []) (c_Machine_step : CalM P w K CA mg base 1 "step" 6 m_Machine_step [] []) : FnOk P w K mg base CX0 7 f fd ["program", "inputs", "most"] (spOf ⟨K, CA⟩ m_by_default) :=
  def_ok F sc_by_default rfl rfl fun cdv A outer s H E hr => ⟨_, sss_cons (ss_if (SW.st (sw_or (st_not (st_val (k_call K rfl c_is_whole hr (sa_cons (se_var (pv 2)) (sa_nil))))) (sw_or1 (st_not (st_chn o_le o_le (se_int) (se_var (pv 2)) ((se_const Z.g_MOST_STEPS fun _ => rfl))))))) (sss_no) (sss_nil)) (sss_cons (ss_par3 (sa_cons (k_make K rfl c_Machine_init hr (sa_cons (se_var (pv 0)) (sa_cons (se_var (pv 1)) (sa_nil)))) (sa_cons (se_lst (sa_nil)) (sa_cons (se_non) (sa_nil)))) (fun h => ps_par3 (i := 3) (j := 4) (l := 5) rfl sc_by_default.nd rfl rfl rfl (by decide) (by decide) (by decide) rfl rfl rfl h (by rfl))) (sss_cons (ss_while .never (SW.st (sw_and (st_cmp o_lt (se_cb (k_len K rfl) Z.b_len boot_len (sa_cons (se_var (pv 4)) (sa_nil))) (se_var (pv 2))) (sw_and1 (st_cmp o_is (k_fld K rfl Z.c1 Z.na1_end (se_var (pv 3))) (se_non))))) (sss_cons (ss_st (i := 5) sc_by_default.nd (k_call K rfl c_default_thread hr (sa_cons (se_var (pv 3)) (sa_cons (se_var (pv 5)) (sa_nil))))) (sss_cons (ss_expr (k_meth K rfl c_Machine_step hr (se_var (pv 3)) (sa_cons (se_var (pv 5)) (sa_nil)))) (sss_one (ss_expr (k_lm K rfl PySem.F.plainAttrs_list PySem.F.slot_list_append PySem.F.type_list_append m_append (se_var (pv 4)) (sa_cons (se_var (pv 5)) (sa_nil)))))))) (sss_one (ss_ret (se_ct (k_tuple K rfl) Z.b_tuple boot_tuple (sa_cons (se_var (pv 4)) (sa_nil)))))))⟩
end
end K47
end

noncomputable section
namespace K47
open PySem PySem.Spec PyProof.Rows L2 Sh
section
variable {P : Program} {w : World} {K : PySem.W.Frag} {CA : Cd} {mg : Str → Option Value} {base : Heap} {f : Addr} {fd : FuncData}
theorem sc_law_draws : FnScope ["script"] ["script"] (defScope s_law_draws) := ⟨rfl, rfl, rfl, by decide +kernel, rfl, by decide +kernel, by decide +kernel⟩
theorem ok_law_draws (Z : Fx K CA mg) (F : FunD K "_law_draws" "_law_draws" (defArgs s_law_draws) (defBody s_law_draws) (defScope s_law_draws) [] [] f fd) : FnOk P w K mg base CX0 1 f fd ["script"] (spOf ⟨K, CA⟩ mDraws) := by
  refine F.ok sc_law_draws (fun vs H Q E h => ?_) (fun cdv A outer s H vs Q E hr h => ?_)
  · obtain ⟨ρ, us, m, u, m', r, rv, e, _⟩ := h
    match us, e, rv with
    | [_], _, .cons _ .nil => rfl
    | [], e, _ => cases e
    | _ :: _ :: _, e, _ => cases e
  · obtain ⟨ρ, us, m, u, m', r, rv, e, q⟩ := h
    match us, e, rv with
    | [], e, _ => cases e
    | _ :: _ :: _, e, _ => cases e
    | [x], e, .cons (b := v) rx .nil =>
      have ht : SSs CA (cxOf CX0 P w K mg base ["script"] "_law_draws" (defScope s_law_draws) f cdv A outer s H E).nox (defBody s_law_draws) (tRet (tLst (tCons (tCB (fun xs H Q => ∃ p ys, xs = [.ref p] ∧ (SqL K H p ys ∨ SqT K H p ys) ∧ ∀ l, H l = none → Q (.ref l) (upd H l (.lst ys))) (tCons (tVar 0) tNil)) (tCons (tC (.int 0)) (tCons (tC (.int 0)) (tCons (tC (.int 1)) tNil)))))) _ :=
        sss_one (ss_ret (se_lst (sa_cons (se_ct (k_list K rfl) Z.b_list boot_list (sa_cons (se_var (pv 0)) (sa_nil))) (sa_cons (se_int) (sa_cons (se_int) (sa_cons (se_int) (sa_nil)))))))
      refine ⟨_, PSs.nox ht.pe, ?_⟩
      cases x with
      | ref n =>
        obtain ⟨a, ha, rfl⟩ := rx
        unfold mDraws at e
        dsimp only at e
        cases g : m.get n with
        | none => simp only [g] at e; cases e
        | some ob =>
          cases ob with
          | src ls =>
            simp only [g] at e
            obtain ⟨hl, e⟩ := cond_inv e
            cases e
            have hl : m.n + 1 < most := blt_lt hl
            obtain ⟨d, hd, hz, hf⟩ := r.at ha g
            have hS : SqL K H a (CA.zs.map V.int) := hz.elim (fun ⟨o, z⟩ => .inl (.inr ⟨o, z⟩)) .inr
            refine ⟨.ref a, rfl, a, CA.zs.map V.int, rfl, .inl hS, fun b hb => ⟨by rw [sizeLine_eq]; show 4 ≤ 16777216; omega, fun p hp => ?_⟩⟩
            have r1 := r.new (o := .scr) (u := .lst (CA.zs.map V.int)) hb (by omega) upd_same
            have at1 := at_new r (D := b)
            have r2 := r1.new (o := .drw m.n ls) (u := .lst [.ref b, .int 0, .int 0, .int 1]) hp (show m.n + 1 < most from hl) ⟨b, d, 0, 0, 1, at_mono (pre_snoc _ p) at1, at_mono ((pre_snoc ρ b).trans (pre_snoc _ p)) hd, upd_same, hf⟩
            exact q _ _ _ ((pre_snoc ρ b).trans (pre_snoc _ p)) r2 ⟨p, at_new r1, rfl⟩
          | _ => simp only [g] at e; cases e
      | _ => cases e
theorem sc_law_draw : FnScope ["draws", "limit", "cell", "value"] ["draws", "limit"] (defScope s_law_draw) := ⟨rfl, rfl, rfl, by decide +kernel, rfl, by decide +kernel, by decide +kernel⟩
theorem rv0 {ρ : List Addr} {d : Addr} {u : U} {z : Int} (hd : ρ[1]? = some d) (h : RV0 d u z) : RV ρ u (.int z) := by
  cases u with
  | int i => cases h; rfl
  | dr b => exact ⟨z, rfl, h.1, h.2⟩
  | num k => exact ⟨d, hd, h.1, by rw [h.2]⟩
  | _ => exact h.elim
theorem ok_law_draw (Z : Fx K CA mg) (F : FunD K "_law_draw" "_law_draw" (defArgs s_law_draw) (defBody s_law_draw) (defScope s_law_draw) [] [] f fd) : FnOk P w K mg base CX0 1 f fd ["draws", "limit"] (spOf ⟨K, CA⟩ mDraw) := by
  refine F.ok sc_law_draw (fun vs H Q E h => ?_) (fun cdv A outer s H vs Q E hr h => ?_)
  · obtain ⟨ρ, us, m, u, m', r, rv, e, _⟩ := h
    match us, e, rv with
    | [_, _], _, .cons _ (.cons _ .nil) => rfl
    | [], e, _ => cases e
    | [_], e, _ => cases e
    | _ :: _ :: _ :: _, e, _ => cases e
  · obtain ⟨ρ, us, m, u, m', r, rv, e, q⟩ := h
    match us, e, rv with
    | [], e, _ => cases e
    | [_], e, _ => cases e
    | _ :: _ :: _ :: _, e, _ => cases e
    | [x, y], e, .cons (b := v) rx (.cons (b := v2) ry .nil) =>
      have ht : SSs CA (cxOf CX0 P w K mg base ["draws", "limit", "cell", "value"] "_law_draw" (defScope s_law_draw) f cdv A outer s H E).nox (defBody s_law_draw) (L2.tSeq (tDrA K) (tDrB K)) _ :=
        sss_cons (ss_if (SW.st (sw_and (st_cmp (k_eq K rfl hr) (k_ix K rfl hr (se_var (pv 0)) (se_int)) (se_int)) (sw_and1 (st_cmp o_lt (k_ix K rfl hr (se_var (pv 0)) (se_int)) (se_cb (k_len K rfl) Z.b_len boot_len (sa_cons (k_ix K rfl hr (se_var (pv 0)) (se_int)) (sa_nil))))))) (sss_cons (ss_st (i := 2) sc_law_draw.nd (k_ix K rfl hr (k_ix K rfl hr (se_var (pv 0)) (se_int)) (k_ix K rfl hr (se_var (pv 0)) (se_int)))) (sss_cons (ss_asg (se_op (k_add K rfl) (k_ix K rfl hr (se_var (pv 0)) (se_int)) (se_int)) (sh_sub hr (se_var (pv 0)) (se_int))) (sss_cons (ss_if (st_cmp o_ge (se_var (pv 2)) (se_op o_pow (se_int) (se_int))) (sss_one (ss_asg (se_var (pv 2)) (sh_sub hr (se_var (pv 0)) (se_int)))) (sss_nil)) (sss_one (ss_asg (se_op o_mod (se_ct c_int Z.b_int boot_int (sa_cons (se_op (k_add K rfl) (se_op (k_add K rfl) (se_op (k_mul K rfl) (k_ix K rfl hr (se_var (pv 0)) (se_int)) (se_int)) (se_var (pv 2))) (se_int)) (sa_nil))) (se_int)) (sh_sub hr (se_var (pv 0)) (se_int))))))) (sss_nil)) (sss_cons (ss_if (st_cmp o_gt (k_ix K rfl hr (se_var (pv 0)) (se_int)) (se_int)) (sss_cons (ss_st (i := 3) sc_law_draw.nd (se_op o_mod (se_ct c_int Z.b_int boot_int (sa_cons (k_ix K rfl hr (se_var (pv 0)) (se_int)) (sa_nil))) (se_var (pv 1)))) (sss_cons (ss_asg (se_op o_div (k_ix K rfl hr (se_var (pv 0)) (se_int)) (se_var (pv 1))) (sh_sub hr (se_var (pv 0)) (se_int))) (sss_one (ss_ret (se_var (pv 3)))))) (sss_nil)) (sss_cons (ss_asg (se_op o_mod (se_ct c_int Z.b_int boot_int (sa_cons (se_op (k_add K rfl) (se_op (k_mul K rfl) (k_ix K rfl hr (se_var (pv 0)) (se_int)) (se_int)) (se_int)) (sa_nil))) (se_int)) (sh_sub hr (se_var (pv 0)) (se_int))) (sss_one (ss_ret (se_op o_mod (se_ct c_int Z.b_int boot_int (sa_cons (se_op o_div (k_ix K rfl hr (se_var (pv 0)) (se_int)) (se_int)) (sa_nil))) (se_var (pv 1)))))))
      refine ⟨_, PSs.nox ht.pe, ?_⟩
      cases x with
      | ref n =>
        cases y with
        | int l =>
          obtain ⟨a, ha, rfl⟩ := rx
          cases ry
          have e : drawAt n l m = some (u, m') := e
          unfold drawAt at e
          cases g : m.get n with
          | none => simp only [g] at e; cases e
          | some ob =>
            cases ob with
            | drw r0 ls =>
              simp only [g] at e
              cases g2 : m.get r0 with
              | none => simp only [g2] at e; cases e
              | some ob2 =>
                cases ob2 with
                | scr =>
                  simp only [g2] at e
                  match ls, e with
                  | [], e => cases e
                  | (l', u0) :: rest, e =>
                    obtain ⟨hll, e⟩ := cond_inv e
                    cases e
                    have hll := of_decide_eq_true hll
                    subst hll
                    obtain ⟨b, d, i, t, c, hb, hd, hH, hi, h0, h1, hrv, hf⟩ := r.at ha g
                    have hz : H b = some (.lst (CA.zs.map V.int)) := r.at hb g2
                    have hab : b ≠ a := fun z => by
                      subst z
                      have := r.inj r0 n b _ _ hb ha g2 g rfl rfl
                      subst this
                      rw [g2] at g
                      cases g
                    refine draw_A rfl rfl hH hz hab hi fun σ' H' e0 e1 el eH eu => ?_
                    refine draw_B (e0.trans rfl) (e1.trans rfl) el h0 h1 eH ?_
                    rw [eu]
                    have hr2 : R ⟨K, CA⟩ ρ (m.put n (.drw r0 rest)) (upd H a (.lst [.ref b, .int (dB l (dA CA.zs i t c)).2.1, .int (dB l (dA CA.zs i t c)).2.2.1, .int (dB l (dA CA.zs i t c)).2.2.2])) :=
                      r.put ha g rfl hH (fun _ z => nomatch z) (fun _ _ z => nomatch z) rfl ⟨b, d, _, _, _, hb, hd, upd_same, hf⟩
                    exact q ρ _ _ (List.prefix_refl _) hr2 (rv0 hd hrv)
                | _ => simp only [g2] at e; cases e
            | _ => simp only [g] at e; cases e
        | _ => cases e
      | _ => cases e
end
end K47
end

noncomputable section
namespace Sh
open PySem PySem.Spec PyProof.Rows L2
theorem for_pe {CA : Cd} {X : Cx} {tg iter : Expr} {body : List Stmt} {pos : Pos} {wi : TI} {fi : XI} {g : TG} {fg : XG} {ws : List Nat} {tb : TS} {fb : XS} (hp : PassesOwn (model X.prog X.w) X.A X.env X.xe) (hc : X.calm = true) (hi : SIt CA X tg iter wi fi) (hg : SH CA X tg g fg ws) (hb : SSs CA X body tb fb)
    (hs : ∀ x, foldedSetIterable iter X.env x = pure x := by intro _; rfl) : ∃ t, PS X (.For tg iter body [] pos) (tFor wi g t) ∧ SoS (wd CA X) t fb := ⟨tb, ps_for hp hc hi.pe hg.pe hb.pe hs, hb.so⟩
end Sh
namespace K47
open PySem PySem.Spec PyProof.Rows L2 Sh
structure AllL (P : Program) (w : World) (K : PySem.W.Frag) (CA : Cd) (mg : Str → Option Value) (base : Heap) : Prop where
  Z : Fx K CA mg
  c_law_draws : Cal P w K CA mg base "_law_draws" 1 mDraws [] []
  c_law_draw : Cal P w K CA mg base "_law_draw" 1 mDraw [] []
  c_law_made : Cal P w K CA mg base "_law_made" 6 m_law_made [] []
  c_law_same : Cal P w K CA mg base "_law_same" 13 (m_law_same 12) [] []
  c_least_log : Cal P w K CA mg base "least_log" 9 m_least_log [] []
  c_turned : Cal P w K CA mg base "turned" 10 m_turned [] []
  c_turned_right : Cal P w K CA mg base "turned_right" 8 m_turned_right [] []
  c_picture : Cal P w K CA mg base "picture" 1 m_picture [] []
  c_run : Cal P w K CA mg base "run" 7 m_run [] []
  c_woven : Cal P w K CA mg base "woven" 9 m_woven [] []
  c_by_default : Cal P w K CA mg base "by_default" 7 m_by_default [] []
def stl (i : Nat) : Stmt := (defBody s_law).getD i (.Pass ⟨0, 0, 0, 0⟩)
theorem sc_law : FnScope ["script", "draws", "number", "work", "start", "program", "one", "two", "found", "first", "begin", "weaving", "asks", "over", "log", "end", "k", "other", "j"] ["script"] (defScope s_law) := ⟨rfl, rfl, rfl, by decide +kernel, rfl, by decide +kernel, by decide +kernel⟩
section
variable {P : Program} {w : World} {K : PySem.W.Frag} {ca : Nat → Addr} {mg : Str → Option Value} {base : Heap} {f : Addr} {fd : FuncData}
theorem l0 {zs : List Int} (all : AllL P w K ⟨ca, zs⟩ mg base) (cdv : Value) (A : Around) (outer : List Env) (s : Shared) (H : Hp) (E : XK) (hr : Room 13 (A.deeper (envOfC "law" (defScope s_law) s.heap.objs.size f cdv))) : ∃ t, SS ⟨ca, zs⟩ (cxOf CX0 P w K mg base ["script", "draws", "number", "work", "start", "program", "one", "two", "found", "first", "begin", "weaving", "asks", "over", "log", "end", "k", "other", "j"] "law" (defScope s_law) f cdv A outer s H E).nox (stl 0) t z0 := by
  obtain ⟨Z, c_law_draws, c_law_draw, c_law_made, c_law_same, c_least_log, c_turned, c_turned_right, c_picture, c_run, c_woven, c_by_default⟩ := all
  exact ⟨_, ss_st (i := 1) sc_law.nd (k_call K rfl c_law_draws hr (sa_cons (se_var (pv 0)) (sa_nil)))⟩
theorem l1 {zs : List Int} (all : AllL P w K ⟨ca, zs⟩ mg base) (cdv : Value) (A : Around) (outer : List Env) (s : Shared) (H : Hp) (E : XK) (hr : Room 13 (A.deeper (envOfC "law" (defScope s_law) s.heap.objs.size f cdv))) : ∃ t, SS ⟨ca, zs⟩ (cxOf CX0 P w K mg base ["script", "draws", "number", "work", "start", "program", "one", "two", "found", "first", "begin", "weaving", "asks", "over", "log", "end", "k", "other", "j"] "law" (defScope s_law) f cdv A outer s H E).nox (stl 1) t z1 := by
  obtain ⟨Z, c_law_draws, c_law_draw, c_law_made, c_law_same, c_least_log, c_turned, c_turned_right, c_picture, c_run, c_woven, c_by_default⟩ := all
  exact ⟨_, ss_st (i := 2) sc_law.nd (se_op o_sub (k_call K rfl c_law_draw hr (sa_cons (se_var (pv 1)) (sa_cons (se_int) (sa_nil)))) (se_int))⟩
theorem l2 {zs : List Int} (all : AllL P w K ⟨ca, zs⟩ mg base) (cdv : Value) (A : Around) (outer : List Env) (s : Shared) (H : Hp) (E : XK) (hr : Room 13 (A.deeper (envOfC "law" (defScope s_law) s.heap.objs.size f cdv))) : ∃ t, SS ⟨ca, zs⟩ (cxOf CX0 P w K mg base ["script", "draws", "number", "work", "start", "program", "one", "two", "found", "first", "begin", "weaving", "asks", "over", "log", "end", "k", "other", "j"] "law" (defScope s_law) f cdv A outer s H E).nox (stl 2) t z2 := by
  obtain ⟨Z, c_law_draws, c_law_draw, c_law_made, c_law_same, c_least_log, c_turned, c_turned_right, c_picture, c_run, c_woven, c_by_default⟩ := all
  exact ⟨_, ss_st (i := 3) sc_law.nd (se_lst (sa_cons (se_tup (sa_cons (se_str) (sa_cons (se_int) (sa_nil)))) (sa_cons (se_tup (sa_cons (se_str) (sa_cons (se_int) (sa_nil)))) (sa_cons (se_tup (sa_cons (se_str) (sa_cons (se_int) (sa_nil)))) (sa_cons (se_tup (sa_cons (se_str) (sa_nil))) (sa_cons (se_tup (sa_cons (se_str) (sa_cons (se_int) (sa_nil)))) (sa_cons (se_tup (sa_cons (se_str) (sa_cons (se_int) (sa_nil)))) (sa_cons (se_tup (sa_cons (se_str) (sa_cons (se_int) (sa_nil)))) (sa_cons (se_tup (sa_cons (se_str) (sa_nil))) (sa_nil))))))))))⟩
theorem l3 {zs : List Int} (all : AllL P w K ⟨ca, zs⟩ mg base) (cdv : Value) (A : Around) (outer : List Env) (s : Shared) (H : Hp) (E : XK) (hr : Room 13 (A.deeper (envOfC "law" (defScope s_law) s.heap.objs.size f cdv))) : ∃ t, SS ⟨ca, zs⟩ (cxOf CX0 P w K mg base ["script", "draws", "number", "work", "start", "program", "one", "two", "found", "first", "begin", "weaving", "asks", "over", "log", "end", "k", "other", "j"] "law" (defScope s_law) f cdv A outer s H E).nox (stl 3) t z3 := by
  obtain ⟨Z, c_law_draws, c_law_draw, c_law_made, c_law_same, c_least_log, c_turned, c_turned_right, c_picture, c_run, c_woven, c_by_default⟩ := all
  exact ⟨_, ss_st (i := 4) sc_law.nd (se_lst (sa_cons (se_tup (sa_cons (se_str) (sa_cons (se_var (pv 2)) (sa_nil)))) (sa_cons (se_tup (sa_cons (se_str) (sa_cons (se_str) (sa_nil)))) (sa_cons (se_tup (sa_cons (se_str) (sa_cons (se_int) (sa_nil)))) (sa_cons (se_tup (sa_cons (se_str) (sa_cons (se_int) (sa_nil)))) (sa_cons (se_tup (sa_cons (se_str) (sa_cons (se_str) (sa_nil)))) (sa_cons (se_tup (sa_cons (se_str) (sa_cons (se_int) (sa_nil)))) (sa_cons (se_tup (sa_cons (se_str) (sa_cons (se_int) (sa_nil)))) (sa_cons (se_tup (sa_cons (se_str) (sa_nil))) (sa_cons (se_tup (sa_cons (se_str) (sa_nil))) (sa_cons (se_tup (sa_cons (se_str) (sa_cons (se_int) (sa_nil)))) (sa_cons (se_tup (sa_cons (se_str) (sa_nil))) (sa_cons (se_tup (sa_cons (se_str) (sa_nil))) (sa_nil))))))))))))))⟩
theorem l4 {zs : List Int} (all : AllL P w K ⟨ca, zs⟩ mg base) (cdv : Value) (A : Around) (outer : List Env) (s : Shared) (H : Hp) (E : XK) (hr : Room 13 (A.deeper (envOfC "law" (defScope s_law) s.heap.objs.size f cdv))) : ∃ t, SS ⟨ca, zs⟩ (cxOf CX0 P w K mg base ["script", "draws", "number", "work", "start", "program", "one", "two", "found", "first", "begin", "weaving", "asks", "over", "log", "end", "k", "other", "j"] "law" (defScope s_law) f cdv A outer s H E).nox (stl 4) t z4 := by
  obtain ⟨Z, c_law_draws, c_law_draw, c_law_made, c_law_same, c_least_log, c_turned, c_turned_right, c_picture, c_run, c_woven, c_by_default⟩ := all
  exact ⟨_, ss_st (i := 5) sc_law.nd (k_call K rfl c_law_made hr (sa_cons (se_var (pv 4)) (sa_cons (se_var (pv 3)) (sa_cons (se_tup (sa_cons (se_int) (sa_nil))) (sa_cons (se_int) (sa_nil))))))⟩
theorem l5 {zs : List Int} (all : AllL P w K ⟨ca, zs⟩ mg base) (cdv : Value) (A : Around) (outer : List Env) (s : Shared) (H : Hp) (E : XK) (hr : Room 13 (A.deeper (envOfC "law" (defScope s_law) s.heap.objs.size f cdv))) : ∃ t, SS ⟨ca, zs⟩ (cxOf CX0 P w K mg base ["script", "draws", "number", "work", "start", "program", "one", "two", "found", "first", "begin", "weaving", "asks", "over", "log", "end", "k", "other", "j"] "law" (defScope s_law) f cdv A outer s H E).nox (stl 5) t z5 := by
  obtain ⟨Z, c_law_draws, c_law_draw, c_law_made, c_law_same, c_least_log, c_turned, c_turned_right, c_picture, c_run, c_woven, c_by_default⟩ := all
  exact ⟨_, ss_st (i := 6) sc_law.nd (se_op (k_add K rfl) (se_op (k_add K rfl) (se_op (k_add K rfl) (se_op (k_mul K rfl) (se_tup (sa_cons (se_int) (sa_nil))) (se_int)) (se_op (k_mul K rfl) (se_tup (sa_cons (se_int) (sa_nil))) (se_int))) (se_op (k_mul K rfl) (se_tup (sa_cons (se_int) (sa_nil))) (se_int))) (se_op (k_mul K rfl) (se_tup (sa_cons (se_int) (sa_nil))) (se_int)))⟩
theorem l6 {zs : List Int} (all : AllL P w K ⟨ca, zs⟩ mg base) (cdv : Value) (A : Around) (outer : List Env) (s : Shared) (H : Hp) (E : XK) (hr : Room 13 (A.deeper (envOfC "law" (defScope s_law) s.heap.objs.size f cdv))) : ∃ t, SS ⟨ca, zs⟩ (cxOf CX0 P w K mg base ["script", "draws", "number", "work", "start", "program", "one", "two", "found", "first", "begin", "weaving", "asks", "over", "log", "end", "k", "other", "j"] "law" (defScope s_law) f cdv A outer s H E).nox (stl 6) t z6 := by
  obtain ⟨Z, c_law_draws, c_law_draw, c_law_made, c_law_same, c_least_log, c_turned, c_turned_right, c_picture, c_run, c_woven, c_by_default⟩ := all
  exact ⟨_, ss_st (i := 7) sc_law.nd (se_op (k_add K rfl) (se_op (k_add K rfl) (se_op (k_add K rfl) (se_op (k_mul K rfl) (se_tup (sa_cons (se_int) (sa_nil))) (se_int)) (se_op (k_mul K rfl) (se_tup (sa_cons (se_int) (sa_nil))) (se_int))) (se_op (k_mul K rfl) (se_tup (sa_cons (se_int) (sa_nil))) (se_int))) (se_op (k_mul K rfl) (se_tup (sa_cons (se_int) (sa_nil))) (se_int)))⟩
theorem l7 {zs : List Int} (all : AllL P w K ⟨ca, zs⟩ mg base) (cdv : Value) (A : Around) (outer : List Env) (s : Shared) (H : Hp) (E : XK) (hr : Room 13 (A.deeper (envOfC "law" (defScope s_law) s.heap.objs.size f cdv))) : ∃ t, SS ⟨ca, zs⟩ (cxOf CX0 P w K mg base ["script", "draws", "number", "work", "start", "program", "one", "two", "found", "first", "begin", "weaving", "asks", "over", "log", "end", "k", "other", "j"] "law" (defScope s_law) f cdv A outer s H E).nox (stl 7) t z7 := by
  obtain ⟨Z, c_law_draws, c_law_draw, c_law_made, c_law_same, c_least_log, c_turned, c_turned_right, c_picture, c_run, c_woven, c_by_default⟩ := all
  exact ⟨_, ss_if (st_not (st_val (k_call K rfl c_law_same hr (sa_cons (se_lst (sa_cons (k_call K rfl c_least_log hr (sa_cons (se_var (pv 5)) (sa_cons (se_tup (sa_nil)) (sa_cons (se_var (pv 6)) (sa_nil))))) (sa_cons (k_call K rfl c_least_log hr (sa_cons (se_var (pv 5)) (sa_cons (se_tup (sa_nil)) (sa_cons (se_var (pv 7)) (sa_nil))))) (sa_nil)))) (sa_cons (se_lst (sa_cons (se_tup (sa_cons (se_tup (sa_cons (se_int) (sa_cons (se_int) (sa_cons (se_int) (sa_nil))))) (sa_cons (se_tup (sa_cons (se_tup (sa_cons (se_tup (sa_cons (se_int) (sa_cons (se_int) (sa_nil)))) (sa_cons (se_tup (sa_cons (se_int) (sa_cons (se_int) (sa_nil)))) (sa_nil)))) (sa_nil))) (sa_nil)))) (sa_cons (se_tup (sa_cons (se_tup (sa_cons (se_int) (sa_cons (se_int) (sa_cons (se_int) (sa_nil))))) (sa_cons (se_tup (sa_cons (se_tup (sa_cons (se_tup (sa_cons (se_int) (sa_cons (se_int) (sa_nil)))) (sa_cons (se_tup (sa_cons (se_int) (sa_cons (se_int) (sa_nil)))) (sa_nil)))) (sa_nil))) (sa_nil)))) (sa_nil)))) (sa_nil)))))) (sss_one (ss_ret (se_bl))) (sss_nil)⟩
theorem l8 {zs : List Int} (all : AllL P w K ⟨ca, zs⟩ mg base) (cdv : Value) (A : Around) (outer : List Env) (s : Shared) (H : Hp) (E : XK) (hr : Room 13 (A.deeper (envOfC "law" (defScope s_law) s.heap.objs.size f cdv))) : ∃ t, SS ⟨ca, zs⟩ (cxOf CX0 P w K mg base ["script", "draws", "number", "work", "start", "program", "one", "two", "found", "first", "begin", "weaving", "asks", "over", "log", "end", "k", "other", "j"] "law" (defScope s_law) f cdv A outer s H E).nox (stl 8) t z8 := by
  obtain ⟨Z, c_law_draws, c_law_draw, c_law_made, c_law_same, c_least_log, c_turned, c_turned_right, c_picture, c_run, c_woven, c_by_default⟩ := all
  exact ⟨_, ss_st (i := 8) sc_law.nd (k_call K rfl c_turned hr (sa_cons (se_var (pv 5)) (sa_cons (se_tup (sa_nil)) (sa_cons (se_var (pv 6)) (sa_cons (se_tup (sa_cons (se_tup (sa_cons (se_int) (sa_cons (se_int) (sa_nil)))) (sa_cons (se_tup (sa_cons (se_int) (sa_cons (se_int) (sa_nil)))) (sa_nil)))) (sa_nil))))))⟩
theorem l9 {zs : List Int} (all : AllL P w K ⟨ca, zs⟩ mg base) (cdv : Value) (A : Around) (outer : List Env) (s : Shared) (H : Hp) (E : XK) (hr : Room 13 (A.deeper (envOfC "law" (defScope s_law) s.heap.objs.size f cdv))) : ∃ t, SS ⟨ca, zs⟩ (cxOf CX0 P w K mg base ["script", "draws", "number", "work", "start", "program", "one", "two", "found", "first", "begin", "weaving", "asks", "over", "log", "end", "k", "other", "j"] "law" (defScope s_law) f cdv A outer s H E).nox (stl 9) t z9 := by
  obtain ⟨Z, c_law_draws, c_law_draw, c_law_made, c_law_same, c_least_log, c_turned, c_turned_right, c_picture, c_run, c_woven, c_by_default⟩ := all
  exact ⟨_, ss_if (st_cmp o_isntT (k_call K rfl c_turned_right hr (sa_cons (se_var (pv 5)) (sa_cons (se_tup (sa_nil)) (sa_cons (k_call K rfl c_least_log hr (sa_cons (se_var (pv 5)) (sa_cons (se_tup (sa_nil)) (sa_cons (se_var (pv 6)) (sa_nil))))) (sa_cons (se_tup (sa_cons (se_tup (sa_cons (se_int) (sa_cons (se_int) (sa_nil)))) (sa_cons (se_tup (sa_cons (se_int) (sa_cons (se_int) (sa_nil)))) (sa_nil)))) (sa_cons (se_var (pv 8)) (sa_nil))))))) (se_bl)) (sss_one (ss_ret (se_bl))) (sss_nil)⟩
theorem l10 {zs : List Int} (all : AllL P w K ⟨ca, zs⟩ mg base) (cdv : Value) (A : Around) (outer : List Env) (s : Shared) (H : Hp) (E : XK) (hr : Room 13 (A.deeper (envOfC "law" (defScope s_law) s.heap.objs.size f cdv))) : ∃ t, SS ⟨ca, zs⟩ (cxOf CX0 P w K mg base ["script", "draws", "number", "work", "start", "program", "one", "two", "found", "first", "begin", "weaving", "asks", "over", "log", "end", "k", "other", "j"] "law" (defScope s_law) f cdv A outer s H E).nox (stl 10) t z10 := by
  obtain ⟨Z, c_law_draws, c_law_draw, c_law_made, c_law_same, c_least_log, c_turned, c_turned_right, c_picture, c_run, c_woven, c_by_default⟩ := all
  exact ⟨_, ss_st (i := 9) sc_law.nd (se_lst (sa_cons (se_tup (sa_cons (se_str) (sa_cons (se_int) (sa_nil)))) (sa_cons (se_tup (sa_cons (se_str) (sa_cons (se_int) (sa_nil)))) (sa_cons (se_tup (sa_cons (se_str) (sa_cons (se_int) (sa_nil)))) (sa_cons (se_tup (sa_cons (se_str) (sa_cons (se_int) (sa_nil)))) (sa_cons (se_tup (sa_cons (se_str) (sa_cons (se_int) (sa_nil)))) (sa_cons (se_tup (sa_cons (se_str) (sa_nil))) (sa_nil))))))))⟩
theorem l11 {zs : List Int} (all : AllL P w K ⟨ca, zs⟩ mg base) (cdv : Value) (A : Around) (outer : List Env) (s : Shared) (H : Hp) (E : XK) (hr : Room 13 (A.deeper (envOfC "law" (defScope s_law) s.heap.objs.size f cdv))) : ∃ t, SS ⟨ca, zs⟩ (cxOf CX0 P w K mg base ["script", "draws", "number", "work", "start", "program", "one", "two", "found", "first", "begin", "weaving", "asks", "over", "log", "end", "k", "other", "j"] "law" (defScope s_law) f cdv A outer s H E).nox (stl 11) t z11 := by
  obtain ⟨Z, c_law_draws, c_law_draw, c_law_made, c_law_same, c_least_log, c_turned, c_turned_right, c_picture, c_run, c_woven, c_by_default⟩ := all
  exact ⟨_, ss_st (i := 10) sc_law.nd (se_lst (sa_cons (se_tup (sa_cons (se_str) (sa_cons (se_var (pv 2)) (sa_nil)))) (sa_cons (se_tup (sa_cons (se_str) (sa_cons (se_str) (sa_nil)))) (sa_cons (se_tup (sa_cons (se_str) (sa_cons (se_int) (sa_nil)))) (sa_cons (se_tup (sa_cons (se_str) (sa_cons (se_int) (sa_nil)))) (sa_cons (se_tup (sa_cons (se_str) (sa_nil))) (sa_cons (se_tup (sa_cons (se_str) (sa_cons (se_int) (sa_nil)))) (sa_cons (se_tup (sa_cons (se_str) (sa_cons (se_int) (sa_nil)))) (sa_cons (se_tup (sa_cons (se_str) (sa_cons (se_int) (sa_nil)))) (sa_cons (se_tup (sa_cons (se_str) (sa_nil))) (sa_cons (se_tup (sa_cons (se_str) (sa_nil))) (sa_nil))))))))))))⟩
theorem l12 {zs : List Int} (all : AllL P w K ⟨ca, zs⟩ mg base) (cdv : Value) (A : Around) (outer : List Env) (s : Shared) (H : Hp) (E : XK) (hr : Room 13 (A.deeper (envOfC "law" (defScope s_law) s.heap.objs.size f cdv))) : ∃ t, SS ⟨ca, zs⟩ (cxOf CX0 P w K mg base ["script", "draws", "number", "work", "start", "program", "one", "two", "found", "first", "begin", "weaving", "asks", "over", "log", "end", "k", "other", "j"] "law" (defScope s_law) f cdv A outer s H E).nox (stl 12) t z12 := by
  obtain ⟨Z, c_law_draws, c_law_draw, c_law_made, c_law_same, c_least_log, c_turned, c_turned_right, c_picture, c_run, c_woven, c_by_default⟩ := all
  exact ⟨_, ss_st (i := 5) sc_law.nd (k_call K rfl c_law_made hr (sa_cons (se_var (pv 10)) (sa_cons (se_var (pv 9)) (sa_cons (se_tup (sa_cons (se_int) (sa_nil))) (sa_cons (se_int) (sa_nil))))))⟩
theorem l13 {zs : List Int} (all : AllL P w K ⟨ca, zs⟩ mg base) (cdv : Value) (A : Around) (outer : List Env) (s : Shared) (H : Hp) (E : XK) (hr : Room 13 (A.deeper (envOfC "law" (defScope s_law) s.heap.objs.size f cdv))) : ∃ t, SS ⟨ca, zs⟩ (cxOf CX0 P w K mg base ["script", "draws", "number", "work", "start", "program", "one", "two", "found", "first", "begin", "weaving", "asks", "over", "log", "end", "k", "other", "j"] "law" (defScope s_law) f cdv A outer s H E).nox (stl 13) t z13 := by
  obtain ⟨Z, c_law_draws, c_law_draw, c_law_made, c_law_same, c_least_log, c_turned, c_turned_right, c_picture, c_run, c_woven, c_by_default⟩ := all
  exact ⟨_, ss_st (i := 11) sc_law.nd (se_op (k_add K rfl) (se_op (k_add K rfl) (se_op (k_add K rfl) (se_op (k_add K rfl) (se_tup (sa_cons (se_int) (sa_cons (se_int) (sa_cons (se_int) (sa_nil))))) (se_tup (sa_cons (se_int) (sa_cons (se_int) (sa_cons (se_int) (sa_cons (se_int) (sa_nil))))))) (se_tup (sa_cons (se_int) (sa_cons (se_int) (sa_cons (se_int) (sa_cons (se_int) (sa_nil))))))) (se_tup (sa_cons (se_int) (sa_cons (se_int) (sa_nil))))) (se_tup (sa_cons (se_int) (sa_cons (se_int) (sa_cons (se_int) (sa_nil))))))⟩
theorem l14 {zs : List Int} (all : AllL P w K ⟨ca, zs⟩ mg base) (cdv : Value) (A : Around) (outer : List Env) (s : Shared) (H : Hp) (E : XK) (hr : Room 13 (A.deeper (envOfC "law" (defScope s_law) s.heap.objs.size f cdv))) : ∃ t, SS ⟨ca, zs⟩ (cxOf CX0 P w K mg base ["script", "draws", "number", "work", "start", "program", "one", "two", "found", "first", "begin", "weaving", "asks", "over", "log", "end", "k", "other", "j"] "law" (defScope s_law) f cdv A outer s H E).nox (stl 14) t z14 := by
  obtain ⟨Z, c_law_draws, c_law_draw, c_law_made, c_law_same, c_least_log, c_turned, c_turned_right, c_picture, c_run, c_woven, c_by_default⟩ := all
  exact ⟨_, ss_if (st_not (st_val (k_call K rfl c_law_same hr (sa_cons (k_call K rfl c_least_log hr (sa_cons (se_var (pv 5)) (sa_cons (se_tup (sa_nil)) (sa_cons (se_var (pv 11)) (sa_nil))))) (sa_cons (se_tup (sa_cons (se_tup (sa_cons (se_int) (sa_cons (se_int) (sa_nil)))) (sa_cons (se_tup (sa_cons (se_tup (sa_cons (se_tup (sa_cons (se_int) (sa_cons (se_int) (sa_nil)))) (sa_cons (se_tup (sa_cons (se_int) (sa_cons (se_int) (sa_nil)))) (sa_nil)))) (sa_nil))) (sa_nil)))) (sa_nil)))))) (sss_one (ss_ret (se_bl))) (sss_nil)⟩
theorem l15 {zs : List Int} (all : AllL P w K ⟨ca, zs⟩ mg base) (cdv : Value) (A : Around) (outer : List Env) (s : Shared) (H : Hp) (E : XK) (hr : Room 13 (A.deeper (envOfC "law" (defScope s_law) s.heap.objs.size f cdv))) : ∃ t, SS ⟨ca, zs⟩ (cxOf CX0 P w K mg base ["script", "draws", "number", "work", "start", "program", "one", "two", "found", "first", "begin", "weaving", "asks", "over", "log", "end", "k", "other", "j"] "law" (defScope s_law) f cdv A outer s H E).nox (stl 15) t z15 := by
  obtain ⟨Z, c_law_draws, c_law_draw, c_law_made, c_law_same, c_least_log, c_turned, c_turned_right, c_picture, c_run, c_woven, c_by_default⟩ := all
  exact ⟨_, ss_st (i := 11) sc_law.nd (se_op (k_add K rfl) (se_op (k_add K rfl) (se_op (k_add K rfl) (se_op (k_add K rfl) (se_tup (sa_cons (se_int) (sa_cons (se_int) (sa_cons (se_int) (sa_cons (se_int) (sa_cons (se_int) (sa_nil))))))) (se_tup (sa_cons (se_int) (sa_cons (se_int) (sa_cons (se_int) (sa_cons (se_int) (sa_nil))))))) (se_tup (sa_cons (se_int) (sa_cons (se_int) (sa_nil))))) (se_tup (sa_cons (se_int) (sa_cons (se_int) (sa_nil))))) (se_tup (sa_cons (se_int) (sa_cons (se_int) (sa_cons (se_int) (sa_nil))))))⟩
theorem l16 {zs : List Int} (all : AllL P w K ⟨ca, zs⟩ mg base) (cdv : Value) (A : Around) (outer : List Env) (s : Shared) (H : Hp) (E : XK) (hr : Room 13 (A.deeper (envOfC "law" (defScope s_law) s.heap.objs.size f cdv))) : ∃ t, SS ⟨ca, zs⟩ (cxOf CX0 P w K mg base ["script", "draws", "number", "work", "start", "program", "one", "two", "found", "first", "begin", "weaving", "asks", "over", "log", "end", "k", "other", "j"] "law" (defScope s_law) f cdv A outer s H E).nox (stl 16) t z16 := by
  obtain ⟨Z, c_law_draws, c_law_draw, c_law_made, c_law_same, c_least_log, c_turned, c_turned_right, c_picture, c_run, c_woven, c_by_default⟩ := all
  exact ⟨_, ss_if (st_not (st_val (k_call K rfl c_law_same hr (sa_cons (k_call K rfl c_least_log hr (sa_cons (se_var (pv 5)) (sa_cons (se_tup (sa_nil)) (sa_cons (se_var (pv 11)) (sa_nil))))) (sa_cons (se_tup (sa_cons (se_tup (sa_cons (se_int) (sa_cons (se_int) (sa_nil)))) (sa_cons (se_tup (sa_cons (se_tup (sa_cons (se_tup (sa_cons (se_int) (sa_cons (se_int) (sa_nil)))) (sa_cons (se_tup (sa_cons (se_int) (sa_cons (se_int) (sa_nil)))) (sa_nil)))) (sa_cons (se_tup (sa_cons (se_tup (sa_cons (se_int) (sa_cons (se_int) (sa_nil)))) (sa_cons (se_tup (sa_cons (se_int) (sa_cons (se_int) (sa_nil)))) (sa_nil)))) (sa_nil)))) (sa_nil)))) (sa_nil)))))) (sss_one (ss_ret (se_bl))) (sss_nil)⟩
theorem l17 {zs : List Int} (all : AllL P w K ⟨ca, zs⟩ mg base) (cdv : Value) (A : Around) (outer : List Env) (s : Shared) (H : Hp) (E : XK) (hr : Room 13 (A.deeper (envOfC "law" (defScope s_law) s.heap.objs.size f cdv))) : ∃ t, SS ⟨ca, zs⟩ (cxOf CX0 P w K mg base ["script", "draws", "number", "work", "start", "program", "one", "two", "found", "first", "begin", "weaving", "asks", "over", "log", "end", "k", "other", "j"] "law" (defScope s_law) f cdv A outer s H E).nox (stl 17) t z17 := by
  obtain ⟨Z, c_law_draws, c_law_draw, c_law_made, c_law_same, c_least_log, c_turned, c_turned_right, c_picture, c_run, c_woven, c_by_default⟩ := all
  exact ⟨_, ss_st (i := 12) sc_law.nd (se_lst (sa_cons (se_tup (sa_cons (se_str) (sa_nil))) (sa_cons (se_tup (sa_cons (se_str) (sa_cons (se_int) (sa_nil)))) (sa_cons (se_tup (sa_cons (se_str) (sa_nil))) (sa_cons (se_tup (sa_cons (se_str) (sa_nil))) (sa_cons (se_tup (sa_cons (se_str) (sa_cons (se_int) (sa_nil)))) (sa_cons (se_tup (sa_cons (se_str) (sa_nil))) (sa_nil))))))))⟩
theorem l18 {zs : List Int} (all : AllL P w K ⟨ca, zs⟩ mg base) (cdv : Value) (A : Around) (outer : List Env) (s : Shared) (H : Hp) (E : XK) (hr : Room 13 (A.deeper (envOfC "law" (defScope s_law) s.heap.objs.size f cdv))) : ∃ t, SS ⟨ca, zs⟩ (cxOf CX0 P w K mg base ["script", "draws", "number", "work", "start", "program", "one", "two", "found", "first", "begin", "weaving", "asks", "over", "log", "end", "k", "other", "j"] "law" (defScope s_law) f cdv A outer s H E).nox (stl 18) t z18 := by
  obtain ⟨Z, c_law_draws, c_law_draw, c_law_made, c_law_same, c_least_log, c_turned, c_turned_right, c_picture, c_run, c_woven, c_by_default⟩ := all
  exact ⟨_, ss_st (i := 13) sc_law.nd (se_lst (sa_cons (se_tup (sa_cons (se_str) (sa_cons (se_int) (sa_nil)))) (sa_cons (se_tup (sa_cons (se_str) (sa_cons (se_str) (sa_nil)))) (sa_cons (se_tup (sa_cons (se_str) (sa_cons (se_int) (sa_nil)))) (sa_cons (se_tup (sa_cons (se_str) (sa_nil))) (sa_cons (se_tup (sa_cons (se_str) (sa_nil))) (sa_cons (se_tup (sa_cons (se_str) (sa_cons (se_int) (sa_nil)))) (sa_cons (se_tup (sa_cons (se_str) (sa_nil))) (sa_cons (se_tup (sa_cons (se_str) (sa_nil))) (sa_nil))))))))))⟩
theorem l19 {zs : List Int} (all : AllL P w K ⟨ca, zs⟩ mg base) (cdv : Value) (A : Around) (outer : List Env) (s : Shared) (H : Hp) (E : XK) (hr : Room 13 (A.deeper (envOfC "law" (defScope s_law) s.heap.objs.size f cdv))) : ∃ t, SS ⟨ca, zs⟩ (cxOf CX0 P w K mg base ["script", "draws", "number", "work", "start", "program", "one", "two", "found", "first", "begin", "weaving", "asks", "over", "log", "end", "k", "other", "j"] "law" (defScope s_law) f cdv A outer s H E).nox (stl 19) t z19 := by
  obtain ⟨Z, c_law_draws, c_law_draw, c_law_made, c_law_same, c_least_log, c_turned, c_turned_right, c_picture, c_run, c_woven, c_by_default⟩ := all
  exact ⟨_, ss_st (i := 5) sc_law.nd (k_call K rfl c_law_made hr (sa_cons (se_var (pv 13)) (sa_cons (se_var (pv 12)) (sa_cons (se_tup (sa_cons (se_int) (sa_nil))) (sa_cons (se_int) (sa_nil))))))⟩
theorem l20 {zs : List Int} (all : AllL P w K ⟨ca, zs⟩ mg base) (cdv : Value) (A : Around) (outer : List Env) (s : Shared) (H : Hp) (E : XK) (hr : Room 13 (A.deeper (envOfC "law" (defScope s_law) s.heap.objs.size f cdv))) : ∃ t, SS ⟨ca, zs⟩ (cxOf CX0 P w K mg base ["script", "draws", "number", "work", "start", "program", "one", "two", "found", "first", "begin", "weaving", "asks", "over", "log", "end", "k", "other", "j"] "law" (defScope s_law) f cdv A outer s H E).nox (stl 20) t z20 := by
  obtain ⟨Z, c_law_draws, c_law_draw, c_law_made, c_law_same, c_least_log, c_turned, c_turned_right, c_picture, c_run, c_woven, c_by_default⟩ := all
  exact ⟨_, ss_st (i := 11) sc_law.nd (se_tup (sa_cons (se_int) (sa_cons (se_int) (sa_cons (se_int) (sa_cons (se_int) (sa_cons (se_int) (sa_cons (se_int) (sa_cons (se_int) (sa_cons (se_int) (sa_nil))))))))))⟩
theorem l21 {zs : List Int} (all : AllL P w K ⟨ca, zs⟩ mg base) (cdv : Value) (A : Around) (outer : List Env) (s : Shared) (H : Hp) (E : XK) (hr : Room 13 (A.deeper (envOfC "law" (defScope s_law) s.heap.objs.size f cdv))) : ∃ t, SS ⟨ca, zs⟩ (cxOf CX0 P w K mg base ["script", "draws", "number", "work", "start", "program", "one", "two", "found", "first", "begin", "weaving", "asks", "over", "log", "end", "k", "other", "j"] "law" (defScope s_law) f cdv A outer s H E).nox (stl 21) t z21 := by
  obtain ⟨Z, c_law_draws, c_law_draw, c_law_made, c_law_same, c_least_log, c_turned, c_turned_right, c_picture, c_run, c_woven, c_by_default⟩ := all
  exact ⟨_, ss_st (i := 14) sc_law.nd (k_call K rfl c_least_log hr (sa_cons (se_var (pv 5)) (sa_cons (se_tup (sa_cons (se_int) (sa_cons (se_var (pv 2)) (sa_nil)))) (sa_cons (se_var (pv 11)) (sa_nil)))))⟩
theorem l22 {zs : List Int} (all : AllL P w K ⟨ca, zs⟩ mg base) (cdv : Value) (A : Around) (outer : List Env) (s : Shared) (H : Hp) (E : XK) (hr : Room 13 (A.deeper (envOfC "law" (defScope s_law) s.heap.objs.size f cdv))) : ∃ t, SS ⟨ca, zs⟩ (cxOf CX0 P w K mg base ["script", "draws", "number", "work", "start", "program", "one", "two", "found", "first", "begin", "weaving", "asks", "over", "log", "end", "k", "other", "j"] "law" (defScope s_law) f cdv A outer s H E).nox (stl 22) t z22 := by
  obtain ⟨Z, c_law_draws, c_law_draw, c_law_made, c_law_same, c_least_log, c_turned, c_turned_right, c_picture, c_run, c_woven, c_by_default⟩ := all
  exact ⟨_, ss_if (st_not (st_val (k_call K rfl c_law_same hr (sa_cons (se_var (pv 14)) (sa_cons (se_tup (sa_cons (se_tup (sa_cons (se_int) (sa_cons (se_int) (sa_nil)))) (sa_cons (se_tup (sa_cons (se_tup (sa_cons (se_tup (sa_cons (se_int) (sa_cons (se_int) (sa_nil)))) (sa_cons (se_tup (sa_cons (se_int) (sa_cons (se_int) (sa_nil)))) (sa_nil)))) (sa_nil))) (sa_nil)))) (sa_nil)))))) (sss_one (ss_ret (se_bl))) (sss_nil)⟩
theorem l23 {zs : List Int} (all : AllL P w K ⟨ca, zs⟩ mg base) (cdv : Value) (A : Around) (outer : List Env) (s : Shared) (H : Hp) (E : XK) (hr : Room 13 (A.deeper (envOfC "law" (defScope s_law) s.heap.objs.size f cdv))) : ∃ t, SS ⟨ca, zs⟩ (cxOf CX0 P w K mg base ["script", "draws", "number", "work", "start", "program", "one", "two", "found", "first", "begin", "weaving", "asks", "over", "log", "end", "k", "other", "j"] "law" (defScope s_law) f cdv A outer s H E).nox (stl 23) t z23 := by
  obtain ⟨Z, c_law_draws, c_law_draw, c_law_made, c_law_same, c_least_log, c_turned, c_turned_right, c_picture, c_run, c_woven, c_by_default⟩ := all
  exact ⟨_, ss_st (i := 15) sc_law.nd (k_call K rfl c_picture hr (sa_cons (k_call K rfl c_run hr (sa_cons (se_var (pv 5)) (sa_cons (se_tup (sa_cons (se_int) (sa_cons (se_var (pv 2)) (sa_nil)))) (sa_cons (se_var (pv 11)) (sa_nil))))) (sa_nil)))⟩
theorem l24 {zs : List Int} (all : AllL P w K ⟨ca, zs⟩ mg base) (cdv : Value) (A : Around) (outer : List Env) (s : Shared) (H : Hp) (E : XK) (hr : Room 13 (A.deeper (envOfC "law" (defScope s_law) s.heap.objs.size f cdv))) : ∃ t, PS (cxOf CX0 P w K mg base ["script", "draws", "number", "work", "start", "program", "one", "two", "found", "first", "begin", "weaving", "asks", "over", "log", "end", "k", "other", "j"] "law" (defScope s_law) f cdv A outer s H E).nox (stl 24) (tFor (iRng1 (tCons (tC (.int 3)) tNil)) (gName 16) t) ∧ SoS ⟨K, ⟨ca, zs⟩⟩ t z24b := by
  obtain ⟨Z, c_law_draws, c_law_draw, c_law_made, c_law_same, c_least_log, c_turned, c_turned_right, c_picture, c_run, c_woven, c_by_default⟩ := all
  exact for_pe .never rfl (CA := ⟨ca, zs⟩) (si_rng1 Z.b_range (sa_cons (se_int) (sa_nil))) (sh_nm (i := 16) sc_law.nd) (sss_cons (ss_st (i := 17) sc_law.nd (k_call K rfl c_woven hr (sa_cons (se_var (pv 5)) (sa_cons (se_tup (sa_cons (se_int) (sa_cons (se_var (pv 2)) (sa_nil)))) (sa_cons (se_var (pv 14)) (sa_cons (se_ct (k_tuple K rfl) Z.b_tuple boot_tuple (sa_cons (se_lc rfl sc_law.nd (si_rng1 Z.b_range (sa_cons (se_int) (sa_nil))) (blkOk_by (own := [("j", 18)]) (by rfl)) rfl (fun _ _ _ _ _ => sh_nm (i := 18) sc_law.nd) (fun _ _ _ _ _ => sts_nil) (fun _ _ _ _ _ => k_call K rfl c_law_draw hr (sa_cons (se_var (pv 1)) (sa_cons (se_int) (sa_nil))))) (sa_nil))) (sa_nil))))))) (sss_one (ss_if (st_not (st_val (k_call K rfl c_law_same hr (sa_cons (k_call K rfl c_picture hr (sa_cons (k_call K rfl c_run hr (sa_cons (se_var (pv 5)) (sa_cons (se_tup (sa_cons (se_int) (sa_cons (se_var (pv 2)) (sa_nil)))) (sa_cons (se_var (pv 17)) (sa_nil))))) (sa_nil))) (sa_cons (se_var (pv 15)) (sa_nil)))))) (sss_one (ss_ret (se_bl))) (sss_nil))))
theorem l25 {zs : List Int} (all : AllL P w K ⟨ca, zs⟩ mg base) (cdv : Value) (A : Around) (outer : List Env) (s : Shared) (H : Hp) (E : XK) (hr : Room 13 (A.deeper (envOfC "law" (defScope s_law) s.heap.objs.size f cdv))) : ∃ t, SS ⟨ca, zs⟩ (cxOf CX0 P w K mg base ["script", "draws", "number", "work", "start", "program", "one", "two", "found", "first", "begin", "weaving", "asks", "over", "log", "end", "k", "other", "j"] "law" (defScope s_law) f cdv A outer s H E).nox (stl 25) t z25 := by
  obtain ⟨Z, c_law_draws, c_law_draw, c_law_made, c_law_same, c_least_log, c_turned, c_turned_right, c_picture, c_run, c_woven, c_by_default⟩ := all
  exact ⟨_, ss_if (SW.st (sw_or (st_cmp (k_ne K rfl hr) (k_ix K rfl hr (se_var (pv 15)) (se_int)) (se_tup (sa_cons (se_str) (sa_cons (se_neg (se_int)) (sa_cons (se_int) (sa_cons (se_str) (sa_cons (se_int) (sa_nil)))))))) (sw_or1 (st_cmp (k_eq K rfl hr) (k_call K rfl c_by_default hr (sa_cons (se_var (pv 5)) (sa_cons (se_tup (sa_cons (se_int) (sa_cons (se_var (pv 2)) (sa_nil)))) (sa_cons (se_int) (sa_nil))))) (se_var (pv 11)))))) (sss_one (ss_ret (se_bl))) (sss_nil)⟩
theorem l26 {zs : List Int} (all : AllL P w K ⟨ca, zs⟩ mg base) (cdv : Value) (A : Around) (outer : List Env) (s : Shared) (H : Hp) (E : XK) (hr : Room 13 (A.deeper (envOfC "law" (defScope s_law) s.heap.objs.size f cdv))) : ∃ t, SS ⟨ca, zs⟩ (cxOf CX0 P w K mg base ["script", "draws", "number", "work", "start", "program", "one", "two", "found", "first", "begin", "weaving", "asks", "over", "log", "end", "k", "other", "j"] "law" (defScope s_law) f cdv A outer s H E).nox (stl 26) t z26 := by
  obtain ⟨Z, c_law_draws, c_law_draw, c_law_made, c_law_same, c_least_log, c_turned, c_turned_right, c_picture, c_run, c_woven, c_by_default⟩ := all
  exact ⟨_, ss_st (i := 5) sc_law.nd (k_call K rfl c_law_made hr (sa_cons (se_lst (sa_cons (se_tup (sa_cons (se_str) (sa_cons (se_int) (sa_nil)))) (sa_cons (se_tup (sa_cons (se_str) (sa_cons (se_str) (sa_nil)))) (sa_cons (se_tup (sa_cons (se_str) (sa_cons (se_int) (sa_nil)))) (sa_cons (se_tup (sa_cons (se_str) (sa_nil))) (sa_cons (se_tup (sa_cons (se_str) (sa_nil))) (sa_nil))))))) (sa_cons (se_lst (sa_cons (se_tup (sa_cons (se_str) (sa_nil))) (sa_cons (se_tup (sa_cons (se_str) (sa_cons (se_int) (sa_nil)))) (sa_cons (se_tup (sa_cons (se_str) (sa_nil))) (sa_nil))))) (sa_cons (se_tup (sa_cons (se_int) (sa_nil))) (sa_cons (se_int) (sa_nil))))))⟩
theorem l27 {zs : List Int} (all : AllL P w K ⟨ca, zs⟩ mg base) (cdv : Value) (A : Around) (outer : List Env) (s : Shared) (H : Hp) (E : XK) (hr : Room 13 (A.deeper (envOfC "law" (defScope s_law) s.heap.objs.size f cdv))) : ∃ t, SS ⟨ca, zs⟩ (cxOf CX0 P w K mg base ["script", "draws", "number", "work", "start", "program", "one", "two", "found", "first", "begin", "weaving", "asks", "over", "log", "end", "k", "other", "j"] "law" (defScope s_law) f cdv A outer s H E).nox (stl 27) t z27 := by
  obtain ⟨Z, c_law_draws, c_law_draw, c_law_made, c_law_same, c_least_log, c_turned, c_turned_right, c_picture, c_run, c_woven, c_by_default⟩ := all
  exact ⟨_, ss_st (i := 14) sc_law.nd (k_call K rfl c_least_log hr (sa_cons (se_var (pv 5)) (sa_cons (se_tup (sa_cons (se_var (pv 2)) (sa_nil))) (sa_cons (se_tup (sa_cons (se_int) (sa_cons (se_int) (sa_cons (se_int) (sa_cons (se_int) (sa_cons (se_int) (sa_nil))))))) (sa_nil)))))⟩
theorem l28 {zs : List Int} (all : AllL P w K ⟨ca, zs⟩ mg base) (cdv : Value) (A : Around) (outer : List Env) (s : Shared) (H : Hp) (E : XK) (hr : Room 13 (A.deeper (envOfC "law" (defScope s_law) s.heap.objs.size f cdv))) : ∃ t, SS ⟨ca, zs⟩ (cxOf CX0 P w K mg base ["script", "draws", "number", "work", "start", "program", "one", "two", "found", "first", "begin", "weaving", "asks", "over", "log", "end", "k", "other", "j"] "law" (defScope s_law) f cdv A outer s H E).nox (stl 28) t z28 := by
  obtain ⟨Z, c_law_draws, c_law_draw, c_law_made, c_law_same, c_least_log, c_turned, c_turned_right, c_picture, c_run, c_woven, c_by_default⟩ := all
  exact ⟨_, ss_if (st_not (st_val (k_call K rfl c_law_same hr (sa_cons (se_var (pv 14)) (sa_cons (se_tup (sa_cons (se_tup (sa_cons (se_int) (sa_cons (se_int) (sa_nil)))) (sa_cons (se_tup (sa_cons (se_tup (sa_cons (se_tup (sa_cons (se_int) (sa_cons (se_int) (sa_nil)))) (sa_cons (se_tup (sa_cons (se_int) (sa_cons (se_int) (sa_nil)))) (sa_nil)))) (sa_nil))) (sa_nil)))) (sa_nil)))))) (sss_one (ss_ret (se_bl))) (sss_nil)⟩
theorem l29 {zs : List Int} (all : AllL P w K ⟨ca, zs⟩ mg base) (cdv : Value) (A : Around) (outer : List Env) (s : Shared) (H : Hp) (E : XK) (hr : Room 13 (A.deeper (envOfC "law" (defScope s_law) s.heap.objs.size f cdv))) : ∃ t, SS ⟨ca, zs⟩ (cxOf CX0 P w K mg base ["script", "draws", "number", "work", "start", "program", "one", "two", "found", "first", "begin", "weaving", "asks", "over", "log", "end", "k", "other", "j"] "law" (defScope s_law) f cdv A outer s H E).nox (stl 29) t z29 := by
  obtain ⟨Z, c_law_draws, c_law_draw, c_law_made, c_law_same, c_least_log, c_turned, c_turned_right, c_picture, c_run, c_woven, c_by_default⟩ := all
  exact ⟨_, ss_st (i := 17) sc_law.nd (k_call K rfl c_turned hr (sa_cons (se_var (pv 5)) (sa_cons (se_tup (sa_cons (se_var (pv 2)) (sa_nil))) (sa_cons (se_tup (sa_cons (se_int) (sa_cons (se_int) (sa_cons (se_int) (sa_cons (se_int) (sa_cons (se_int) (sa_nil))))))) (sa_cons (se_tup (sa_cons (se_tup (sa_cons (se_int) (sa_cons (se_int) (sa_nil)))) (sa_cons (se_tup (sa_cons (se_int) (sa_cons (se_int) (sa_nil)))) (sa_nil)))) (sa_nil))))))⟩
theorem l30 {zs : List Int} (all : AllL P w K ⟨ca, zs⟩ mg base) (cdv : Value) (A : Around) (outer : List Env) (s : Shared) (H : Hp) (E : XK) (hr : Room 13 (A.deeper (envOfC "law" (defScope s_law) s.heap.objs.size f cdv))) : ∃ t, SS ⟨ca, zs⟩ (cxOf CX0 P w K mg base ["script", "draws", "number", "work", "start", "program", "one", "two", "found", "first", "begin", "weaving", "asks", "over", "log", "end", "k", "other", "j"] "law" (defScope s_law) f cdv A outer s H E).nox (stl 30) t z30 := by
  obtain ⟨Z, c_law_draws, c_law_draw, c_law_made, c_law_same, c_least_log, c_turned, c_turned_right, c_picture, c_run, c_woven, c_by_default⟩ := all
  exact ⟨_, ss_if (st_cmp o_isntT (k_call K rfl c_turned_right hr (sa_cons (se_var (pv 5)) (sa_cons (se_tup (sa_cons (se_var (pv 2)) (sa_nil))) (sa_cons (se_var (pv 14)) (sa_cons (se_tup (sa_cons (se_tup (sa_cons (se_int) (sa_cons (se_int) (sa_nil)))) (sa_cons (se_tup (sa_cons (se_int) (sa_cons (se_int) (sa_nil)))) (sa_nil)))) (sa_cons (se_var (pv 17)) (sa_nil))))))) (se_bl)) (sss_one (ss_ret (se_bl))) (sss_nil)⟩
theorem l31 {zs : List Int} (all : AllL P w K ⟨ca, zs⟩ mg base) (cdv : Value) (A : Around) (outer : List Env) (s : Shared) (H : Hp) (E : XK) (hr : Room 13 (A.deeper (envOfC "law" (defScope s_law) s.heap.objs.size f cdv))) : ∃ t, SS ⟨ca, zs⟩ (cxOf CX0 P w K mg base ["script", "draws", "number", "work", "start", "program", "one", "two", "found", "first", "begin", "weaving", "asks", "over", "log", "end", "k", "other", "j"] "law" (defScope s_law) f cdv A outer s H E).nox (stl 31) t z31 := by
  obtain ⟨Z, c_law_draws, c_law_draw, c_law_made, c_law_same, c_least_log, c_turned, c_turned_right, c_picture, c_run, c_woven, c_by_default⟩ := all
  exact ⟨_, ss_st (i := 17) sc_law.nd (k_call K rfl c_woven hr (sa_cons (se_var (pv 5)) (sa_cons (se_tup (sa_cons (se_var (pv 2)) (sa_nil))) (sa_cons (se_var (pv 14)) (sa_cons (se_ct (k_tuple K rfl) Z.b_tuple boot_tuple (sa_cons (se_lc rfl sc_law.nd (si_rng1 Z.b_range (sa_cons (se_int) (sa_nil))) (blkOk_by (own := [("j", 18)]) (by rfl)) rfl (fun _ _ _ _ _ => sh_nm (i := 18) sc_law.nd) (fun _ _ _ _ _ => sts_nil) (fun _ _ _ _ _ => k_call K rfl c_law_draw hr (sa_cons (se_var (pv 1)) (sa_cons (se_int) (sa_nil))))) (sa_nil))) (sa_nil))))))⟩
theorem l32 {zs : List Int} (all : AllL P w K ⟨ca, zs⟩ mg base) (cdv : Value) (A : Around) (outer : List Env) (s : Shared) (H : Hp) (E : XK) (hr : Room 13 (A.deeper (envOfC "law" (defScope s_law) s.heap.objs.size f cdv))) : ∃ t, SS ⟨ca, zs⟩ (cxOf CX0 P w K mg base ["script", "draws", "number", "work", "start", "program", "one", "two", "found", "first", "begin", "weaving", "asks", "over", "log", "end", "k", "other", "j"] "law" (defScope s_law) f cdv A outer s H E).nox (stl 32) t z32 := by
  obtain ⟨Z, c_law_draws, c_law_draw, c_law_made, c_law_same, c_least_log, c_turned, c_turned_right, c_picture, c_run, c_woven, c_by_default⟩ := all
  exact ⟨_, ss_ret (k_call K rfl c_law_same hr (sa_cons (se_lst (sa_cons (se_var (pv 17)) (sa_cons (k_ix K rfl hr (k_call K rfl c_picture hr (sa_cons (k_call K rfl c_run hr (sa_cons (se_var (pv 5)) (sa_cons (se_tup (sa_cons (se_var (pv 2)) (sa_nil))) (sa_cons (se_var (pv 17)) (sa_nil))))) (sa_nil))) (se_int)) (sa_nil)))) (sa_cons (se_lst (sa_cons (se_tup (sa_cons (se_int) (sa_cons (se_int) (sa_cons (se_int) (sa_cons (se_int) (sa_cons (se_int) (sa_nil))))))) (sa_cons (se_tup (sa_cons (se_str) (sa_cons (se_neg (se_int)) (sa_cons (se_int) (sa_cons (se_str) (sa_cons (se_int) (sa_nil))))))) (sa_nil)))) (sa_nil))))⟩
end
-- level 14
end K47
end

noncomputable section
namespace K47
open PySem PySem.Spec PyProof.Rows L2 Sh
/-! ### from stage to stage -/
theorem goes_inv {o : Option (Fl × Mem)} {m' : Mem} {s' : S} {r : Ls} (h : goes o m' s' = yes r) : ∃ s m, o = some (.nx s, m) ∧ Nat.ble m'.n m.n = true ∧ Nat.ble 4 m'.n = true ∧ sameM m'.n m' m m'.n = true ∧ cutS m'.n s' s = true ∧ m.get 3 = some (.drw 2 r) ∧ m'.get 3 = some (.drw 2 r) := by
  unfold goes at h
  split at h
  · rename_i s m
    simp only [Prod.mk.injEq] at h
    obtain ⟨h1, h2, h3⟩ := h
    obtain ⟨a, h1⟩ := Bool.and_eq_true_iff.mp h1
    obtain ⟨b, h1⟩ := Bool.and_eq_true_iff.mp h1
    obtain ⟨c, d⟩ := Bool.and_eq_true_iff.mp h1
    exact ⟨s, m, rfl, a, b, c, d, h2, h3⟩
  · simp [yes] at h
theorem goes_cut {W : Wd} {s : S} {m m' : Mem} {s' : S} {r : Ls} {ρ : List Addr} {σ : L2.St} {H : Hp} (h : goes (some (.nx s, m)) m' s' = yes r) (hr : R W ρ m H) (hs : Rs ρ s σ) : ∃ ρ', R W ρ' m' H ∧ Rs ρ' s' σ := by
  obtain ⟨s1, m1, e, a, b, c, d, e1, e2⟩ := goes_inv h
  cases e
  exact cut_ok hr hs a b e2 e1 (by
    have := Nat.le_of_ble_eq_true b
    exact Nat.ble_eq_true_of_le (show 3 ≤ m'.n by omega)) c d
theorem stage {W : Wd} {ts : List TS} {fs : List XS} (hp : Paired (fun t f => SoS W t f) ts fs) {u : TS} {s s' : S} {m m' : Mem} {r : Ls} {ρ : List Addr} {σ : L2.St} {H : Hp} {D : Ends} (h : goes (stT fs s m) m' s' = yes r) (hr : R W ρ m H) (hs : Rs ρ s σ)
    (k : ∀ ρ' σ' H', R W ρ' m' H' → Rs ρ' s' σ' → u D σ' H') : seqs ts u D σ H := by
  obtain ⟨s1, m1, e, _⟩ := goes_inv h
  rw [e] at h
  refine so_stT hp e hr hs (fun s2 e2 ρ' σ' H' r' rs' => ?_) (fun x e2 => nomatch e2)
  cases e2
  obtain ⟨ρ2, r2, rs2⟩ := goes_cut h r' rs'
  exact k ρ2 σ' H' r2 rs2
/-- for k in range(n) whose turns are told -/
theorem so_rng {W : Wd} {tb : TS} {fb : XS} (hb : SoS W tb fb) {n k : Nat} (hn : n ≤ 1000) (Mk : Nat → Mem) (Sk : Nat → S) {D : Ends} {ρ : List Addr} {σ : L2.St} {H : Hp}
    (hstep : ∀ i, i < n → ∃ r, goes (stT [fb] ((Sk i).set k (some (.int (i : Int)))) (Mk i)) (Mk (i + 1)) (Sk (i + 1)) = yes r) (hr : R W ρ (Mk 0) H) (hs : Rs ρ (Sk 0) σ)
    (fin : ∀ ρ σ H, R W ρ (Mk n) H → Rs ρ (Sk n) σ → D.nx σ H) : tFor (iRng1 (tCons (tC (.int (n : Int))) tNil)) (gName k) tb D σ H := by
  refine ⟨(n : Int), rfl, by omega, by omega, ?_⟩
  have e0 : (n : Int).toNat = n := by omega
  rw [e0]
  refine ⟨fun i mm σ H => mm = n - i ∧ i ≤ n ∧ ∃ ρ, R W ρ (Mk i) H ∧ Rs ρ (Sk i) σ, ⟨n, rfl, Nat.zero_le _, ρ, hr, hs⟩, ?_⟩
  rintro i mm σ1 H1 ⟨rfl, hi, ρ1, r1, rs1⟩
  by_cases h : i < n
  · refine .inr ⟨h, fun σ' H' => ∃ ρ', R W ρ' (Mk (i + 1)) H' ∧ Rs ρ' (Sk (i + 1)) σ', fun σ' H' z => ⟨n - (i + 1), by omega, rfl, h, z⟩, fun x H' ⟨e1, e2⟩ => ?_⟩
    subst e1 e2
    obtain ⟨r, hg⟩ := hstep i h
    obtain ⟨s2, m2, e, _⟩ := goes_inv hg
    rw [e] at hg
    have e3 : fb ((Sk i).set k (some (.int (i : Int)))) (Mk i) = some (.nx s2, m2) := by
      unfold stT at e
      cases q : fb ((Sk i).set k (some (.int (i : Int)))) (Mk i) with
      | none => simp only [q] at e; cases e
      | some z =>
        obtain ⟨fl, mz⟩ := z
        cases fl with
        | nx sz => simp only [q] at e; cases e; rfl
        | rt x => simp only [q] at e; cases e
        | bk sz => simp only [q] at e; cases e
        | ct sz => simp only [q] at e; cases e
    refine hb _ _ _ m2 e3 ρ1 _ H' _ r1 (Paired.set (F := RSl ρ1) (x := some (.int (i : Int))) (y := some _) (show RV ρ1 (.int (i : Int)) (V.int (0 + (i : Int))) by show V.int _ = V.int _; congr 1; omega) k rs1) fun ρ' σ' H2 _ r2 rs2 => goes_cut hg r2 rs2
  · refine .inl ⟨by show n ≤ i; omega, ?_⟩
    have : i = n := by omega
    subst this
    exact fin ρ1 σ1 H1 r1 rs1
def spLaw (K : PySem.W.Frag) : Sp := fun vs H Q _ => ∃ (a : Addr) (ns : List Int), vs = [.ref a] ∧ SqL K H a (ns.map V.int) ∧ Only H ∧ ∀ H', Q (.bl true) H'
theorem bits_len {n : Nat} : ∀ {bs : List Bool}, bs.length = n + 1 → ∃ b r, bs = b :: r ∧ r.length = n
  | b :: r, h => ⟨b, r, rfl, by simpa using h⟩
/-- eight bits more -/
theorem bits8 {n : Nat} {bs : List Bool} (h : bs.length = n + 8) : ∃ b0 b1 b2 b3 b4 b5 b6 b7 r, bs = b0 :: b1 :: b2 :: b3 :: b4 :: b5 :: b6 :: b7 :: r ∧ r.length = n := by
  obtain ⟨b0, r0, e0, g0⟩ := bits_len (n := n + 7) h
  obtain ⟨b1, r1, e1, g1⟩ := bits_len (n := n + 6) g0
  obtain ⟨b2, r2, e2, g2⟩ := bits_len (n := n + 5) g1
  obtain ⟨b3, r3, e3, g3⟩ := bits_len (n := n + 4) g2
  obtain ⟨b4, r4, e4, g4⟩ := bits_len (n := n + 3) g3
  obtain ⟨b5, r5, e5, g5⟩ := bits_len (n := n + 2) g4
  obtain ⟨b6, r6, e6, g6⟩ := bits_len (n := n + 1) g5
  obtain ⟨b7, r7, e7, g7⟩ := bits_len (n := n) g6
  exact ⟨b0, b1, b2, b3, b4, b5, b6, b7, r7, by rw [e0, e1, e2, e3, e4, e5, e6, e7], g7⟩
theorem turnK (i : Int) {n : Nat} {bs : List Bool} (h : bs.length = n + 8) : goes (stT [z24b] ((fS (toD (bits bs))).set 16 (some (.int i))) (fM (toD (bits bs)))) (fM (toD (bits (bs.drop 8)))) (fS (toD (bits (bs.drop 8)))) = yes (bits (bs.drop 8)) := by
  obtain ⟨b0, b1, b2, b3, b4, b5, b6, b7, r, rfl, _⟩ := bits8 h
  cases b4 with
  | false => exact v6a i b0 b1 b2 b3 b5 b6 b7 (bits r)
  | true => cases b5 with
    | false => exact v6b i b0 b1 b2 b3 b6 b7 (bits r)
    | true => exact v6c i b0 b1 b2 b3 b6 b7 (bits r)
section
variable {P : Program} {w : World} {K : PySem.W.Frag} {ca : Nat → Addr} {mg : Str → Option Value} {base : Heap} {f : Addr} {fd : FuncData}
theorem ok_law (alls : ∀ zs, AllL P w K ⟨ca, zs⟩ mg base) (F : FunD K "law" "law" (defArgs s_law) (defBody s_law) (defScope s_law) [] [] f fd) : FnOk P w K mg base CX0 14 f fd ["script"] (spLaw K) := by
  refine F.ok sc_law (fun vs H Q E h => by obtain ⟨a, ns, rfl, _⟩ := h; rfl) (fun cdv A outer s H vs Q E hr h => ?_)
  obtain ⟨a, zs, rfl, hS, hO, fin⟩ := h
  have all := alls zs
  obtain ⟨t0, h0⟩ := l0 all cdv A outer s H E hr
  obtain ⟨t1, h1⟩ := l1 all cdv A outer s H E hr
  obtain ⟨t2, h2⟩ := l2 all cdv A outer s H E hr
  obtain ⟨t3, h3⟩ := l3 all cdv A outer s H E hr
  obtain ⟨t4, h4⟩ := l4 all cdv A outer s H E hr
  obtain ⟨t5, h5⟩ := l5 all cdv A outer s H E hr
  obtain ⟨t6, h6⟩ := l6 all cdv A outer s H E hr
  obtain ⟨t7, h7⟩ := l7 all cdv A outer s H E hr
  obtain ⟨t8, h8⟩ := l8 all cdv A outer s H E hr
  obtain ⟨t9, h9⟩ := l9 all cdv A outer s H E hr
  obtain ⟨t10, h10⟩ := l10 all cdv A outer s H E hr
  obtain ⟨t11, h11⟩ := l11 all cdv A outer s H E hr
  obtain ⟨t12, h12⟩ := l12 all cdv A outer s H E hr
  obtain ⟨t13, h13⟩ := l13 all cdv A outer s H E hr
  obtain ⟨t14, h14⟩ := l14 all cdv A outer s H E hr
  obtain ⟨t15, h15⟩ := l15 all cdv A outer s H E hr
  obtain ⟨t16, h16⟩ := l16 all cdv A outer s H E hr
  obtain ⟨t17, h17⟩ := l17 all cdv A outer s H E hr
  obtain ⟨t18, h18⟩ := l18 all cdv A outer s H E hr
  obtain ⟨t19, h19⟩ := l19 all cdv A outer s H E hr
  obtain ⟨t20, h20⟩ := l20 all cdv A outer s H E hr
  obtain ⟨t21, h21⟩ := l21 all cdv A outer s H E hr
  obtain ⟨t22, h22⟩ := l22 all cdv A outer s H E hr
  obtain ⟨t23, h23⟩ := l23 all cdv A outer s H E hr
  obtain ⟨t24, h24, b24⟩ := l24 all cdv A outer s H E hr
  obtain ⟨t25, h25⟩ := l25 all cdv A outer s H E hr
  obtain ⟨t26, h26⟩ := l26 all cdv A outer s H E hr
  obtain ⟨t27, h27⟩ := l27 all cdv A outer s H E hr
  obtain ⟨t28, h28⟩ := l28 all cdv A outer s H E hr
  obtain ⟨t29, h29⟩ := l29 all cdv A outer s H E hr
  obtain ⟨t30, h30⟩ := l30 all cdv A outer s H E hr
  obtain ⟨t31, h31⟩ := l31 all cdv A outer s H E hr
  obtain ⟨t32, h32⟩ := l32 all cdv A outer s H E hr
  have hbody : PSs (cxOf CX0 P w K mg base _ "law" (defScope s_law) f cdv A outer s H E).nox (defBody s_law) _ := pss_cons h0.pe (pss_cons h1.pe (pss_cons h2.pe (pss_cons h3.pe (pss_cons h4.pe (pss_cons h5.pe (pss_cons h6.pe (pss_cons h7.pe (pss_cons h8.pe (pss_cons h9.pe (pss_cons h10.pe (pss_cons h11.pe (pss_cons h12.pe (pss_cons h13.pe (pss_cons h14.pe (pss_cons h15.pe (pss_cons h16.pe (pss_cons h17.pe (pss_cons h18.pe (pss_cons h19.pe (pss_cons h20.pe (pss_cons h21.pe (pss_cons h22.pe (pss_cons h23.pe (pss_cons h24 (pss_cons h25.pe (pss_cons h26.pe (pss_cons h27.pe (pss_cons h28.pe (pss_cons h29.pe (pss_cons h30.pe (pss_cons h31.pe (pss_one h32.pe))))))))))))))))))))))))))))))))
  refine ⟨_, PSs.nox hbody, ?_⟩
  obtain ⟨d, bs, hlen, hfut⟩ := fut_first zs 29
  have r0 : R ⟨K, ⟨ca, zs⟩⟩ [a, d] (mS (bits bs)) H := by
    have only : ∀ i o, (mS (bits bs)).get i = some o → i = 0 ∧ o = .src ((9, .num 0) :: bits bs) := fun i o e => by
      by_cases hi : i = 0
      · subst hi
        have : (mS (bits bs)).get 0 = some (.src ((9, .num 0) :: bits bs)) := by kernel_rfl
        rw [this] at e
        cases e
        exact ⟨rfl, rfl⟩
      · have : (mS (bits bs)).get i = none := by
          show Tr.get (Tr.set 41 .nil 0 _) i = none
          rw [Tr.get_set_ne _ _ _ _ _ hi, Tr.get_nil]
        rw [this] at e
        cases e
    refine ⟨rfl, fun i j b o o' hi hj gi gj mi mj => ?_, fun i b o hi gi => ?_, by show 2 ≤ 2 ^ 40; omega⟩
    · rw [(only i o gi).2] at mi
      cases mi
    · obtain ⟨rfl, rfl⟩ := only i o gi
      cases hi
      refine ⟨d, rfl, ?_, hfut⟩
      rcases hS with (hS | ⟨o, hS⟩) | hS
      · rcases hO a with z | ⟨o, xs, z⟩
        · rw [z] at hS; cases hS
        · rw [z] at hS; cases hS
      · exact .inl ⟨o, hS⟩
      · exact .inr hS
  have rs0 : Rs [a, d] sS (L2.start ["script", "draws", "number", "work", "start", "program", "one", "two", "found", "first", "begin", "weaving", "asks", "over", "log", "end", "k", "other", "j"] [.ref a]) := start_ok rfl (.cons ⟨a, rfl, rfl⟩ .nil)
  show seqs [t0, t1] (seqs [t2, t3, t4, t5, t6] (seqs [t7] (seqs [t8, t9] (seqs [t10, t11, t12, t13, t14, t15, t16] (seqs [t17, t18, t19, t20, t21, t22, t23] (L2.tSeq (tFor (iRng1 (tCons (tC (.int 3)) tNil)) (gName 16) t24) (seqs [t25] (seqs [t26, t27, t28, t29, t30, t31, t32] tNext)))))))) _ _ _
  refine stage (.cons h0.so (.cons h1.so (.nil))) (v0 (bits bs)) r0 rs0 fun ρ1 σ1 H1 r1 rs1 => ?_
  refine stage (.cons h2.so (.cons h3.so (.cons h4.so (.cons h5.so (.cons h6.so (.nil)))))) (v1 (bits bs)) r1 rs1 fun ρ2 σ2 H2 r2 rs2 => ?_
  refine stage (.cons h7.so (.nil)) (v2 (bits bs)) r2 rs2 fun ρ3 σ3 H3 r3 rs3 => ?_
  refine stage (.cons h8.so (.cons h9.so (.nil))) (v3 (bits bs)) r3 rs3 fun ρ4 σ4 H4 r4 rs4 => ?_
  refine stage (.cons h10.so (.cons h11.so (.cons h12.so (.cons h13.so (.cons h14.so (.cons h15.so (.cons h16.so (.nil)))))))) (v4 (bits bs)) r4 rs4 fun ρ5 σ5 H5 r5 rs5 => ?_
  refine stage (.cons h17.so (.cons h18.so (.cons h19.so (.cons h20.so (.cons h21.so (.cons h22.so (.cons h23.so (.nil)))))))) (v5 (bits bs)) r5 rs5 fun ρ6 σ6 H6 r6 rs6 => ?_
  refine so_rng (n := 3) b24 (by omega) (fun i => fM (toD (bits (bs.drop (8 * i))))) (fun i => fS (toD (bits (bs.drop (8 * i))))) (fun i hi => ⟨bits (bs.drop (8 * (i + 1))), ?_⟩) r6 rs6 fun ρ7 σ7 H7 r7 rs7 => ?_
  · have e : bs.drop (8 * (i + 1)) = (bs.drop (8 * i)).drop 8 := by rw [List.drop_drop]; congr 1
    rw [e]
    exact turnK i (n := 29 - 8 * i - 8) (by rw [List.length_drop, hlen]; omega)
  refine stage (.cons h25.so (.nil)) (v7 (bits (bs.drop (8 * 3)))) r7 rs7 fun ρ8 σ8 H8 r8 rs8 => ?_
  have hl5 : (bs.drop (8 * 3)).length = 5 := by rw [List.length_drop, hlen]
  generalize bs.drop (8 * 3) = bs5 at r8 hl5
  obtain ⟨b0, q0, y0, g0⟩ := bits_len (n := 4) hl5
  obtain ⟨b1, q1, y1, g1⟩ := bits_len (n := 3) g0
  obtain ⟨b2, q2, y2, g2⟩ := bits_len (n := 2) g1
  obtain ⟨b3, q3, y3, g3⟩ := bits_len (n := 1) g2
  obtain ⟨b4, q4, y4, g4⟩ := bits_len (n := 0) g3
  have y5 : q4 = [] := List.length_eq_zero_iff.mp g4
  have eb : bs5 = [b0, b1, b2, b3, b4] := by rw [y0, y1, y2, y3, y4, y5]
  subst eb
  have hv := v8 b0 b1 b2 b3 b4
  cases e : stT [z26, z27, z28, z29, z30, z31, z32] sB (mB (bits [b0, b1, b2, b3, b4])) with
  | none => rw [show mB (bits [b0, b1, b2, b3, b4]) = mB [(7, .dr b0), (7, .dr b1), (7, .dr b2), (7, .dr b3), (7, .dr b4)] from rfl] at e; rw [e] at hv; cases hv
  | some z =>
    obtain ⟨fl, m9⟩ := z
    rw [show mB (bits [b0, b1, b2, b3, b4]) = mB [(7, .dr b0), (7, .dr b1), (7, .dr b2), (7, .dr b3), (7, .dr b4)] from rfl] at e
    rw [e] at hv
    refine so_stT (.cons h26.so (.cons h27.so (.cons h28.so (.cons h29.so (.cons h30.so (.cons h31.so (.cons h32.so (.nil)))))))) e r8 rs8 (fun s2 e2 => by subst e2; cases hv) fun x e2 ρ' v H' _ rv' => ?_
    subst e2
    have ex := uEq_ok (show uEq x (.bl true) = true from hv)
    subst ex
    cases rv'
    exact fin H'
end
end K47
end

noncomputable section
namespace K47
open PySem PySem.Spec PyProof.Rows L2 Sh
structure Tu (K : PySem.W.Frag) : Prop where
  ALONE : KTup K (He.ga K "ALONE") kv_ALONE
  CONDITIONS : KTup K (He.ga K "CONDITIONS") kv_CONDITIONS
  WORKS : KTup K (He.ga K "WORKS") kv_WORKS
theorem ex_ok {K : PySem.W.Frag} (h : exB K = true) : Tu K ∧ (∃ q1 q2, KTup K (He.ga K "SHARED") [.ref q1, .ref q2] ∧ KTup K q1 [.str ⟨#[105, 110, 112, 117, 116, 115]⟩] ∧ KTup K q2 [.str ⟨#[116, 104, 114, 101, 97, 100, 115]⟩]) ∧ (Cls K (He.ga K "Program") → C8.InsC K (He.ga K "Program")) := by
  simp only [exB, Bool.and_eq_true] at h
  obtain ⟨a0, a1, a2, ⟨n1, n2, n3⟩, i1⟩ := h
  exact ⟨⟨ktB_ok a0, ktB_ok a1, ktB_ok a2⟩, ⟨_, _, ktB_ok n1, ktB_ok n2, ktB_ok n3⟩, fun c => icB_ok c i1⟩
theorem fx {K : PySem.W.Frag} {h : Heap} {mg : Str → Option Value} (X : K.In h) (G : h.Ns mainGlobals mg) (c : He.SaysD fa fnL K) (ex : exB K = true) (zs : List Int) : Fx K ⟨ca K, zs⟩ mg where
  b_abs := He.free_ok X G (c.fact 0 (f := .free "abs") rfl)
  b_all := He.free_ok X G (c.fact 1 (f := .free "all") rfl)
  b_any := He.free_ok X G (c.fact 2 (f := .free "any") rfl)
  b_bool := He.free_ok X G (c.fact 3 (f := .free "bool") rfl)
  b_enumerate := He.free_ok X G (c.fact 4 (f := .free "enumerate") rfl)
  b_int := He.free_ok X G (c.fact 5 (f := .free "int") rfl)
  b_isinstance := He.free_ok X G (c.fact 6 (f := .free "isinstance") rfl)
  b_len := He.free_ok X G (c.fact 7 (f := .free "len") rfl)
  b_list := He.free_ok X G (c.fact 8 (f := .free "list") rfl)
  b_max := He.free_ok X G (c.fact 9 (f := .free "max") rfl)
  b_range := He.free_ok X G (c.fact 10 (f := .free "range") rfl)
  b_sorted := He.free_ok X G (c.fact 11 (f := .free "sorted") rfl)
  b_str := He.free_ok X G (c.fact 12 (f := .free "str") rfl)
  b_sum := He.free_ok X G (c.fact 13 (f := .free "sum") rfl)
  b_tuple := He.free_ok X G (c.fact 14 (f := .free "tuple") rfl)
  n_ALONE := He.glo_ok X G (c.fact 15 (f := .glo "ALONE") rfl)
  t_ALONE := (ex_ok ex).1.ALONE
  g_BOUNDS := let ⟨t, e⟩ := He.int_ok X G (c.fact 16 (f := .int "BOUNDS" (-2)) rfl); ⟨_, e, t, rfl⟩
  n_CONDITIONS := He.glo_ok X G (c.fact 17 (f := .glo "CONDITIONS") rfl)
  t_CONDITIONS := (ex_ok ex).1.CONDITIONS
  g_DEEP := let ⟨t, e⟩ := He.int_ok X G (c.fact 18 (f := .int "DEEP" (-8)) rfl); ⟨_, e, t, rfl⟩
  g_EMPTY := let ⟨t, e⟩ := He.int_ok X G (c.fact 19 (f := .int "EMPTY" (-7)) rfl); ⟨_, e, t, rfl⟩
  g_FEW := let ⟨t, e⟩ := He.int_ok X G (c.fact 20 (f := .int "FEW" (-12)) rfl); ⟨_, e, t, rfl⟩
  g_HALF := let ⟨t, e⟩ := He.int_ok X G (c.fact 21 (f := .int "HALF" 2147483648) rfl); ⟨_, e, t, rfl⟩
  g_MANY := let ⟨t, e⟩ := He.int_ok X G (c.fact 22 (f := .int "MANY" (-11)) rfl); ⟨_, e, t, rfl⟩
  g_MOST_CELLS := let ⟨t, e⟩ := He.int_ok X G (c.fact 23 (f := .int "MOST_CELLS" 16) rfl); ⟨_, e, t, rfl⟩
  g_MOST_CODE := let ⟨t, e⟩ := He.int_ok X G (c.fact 24 (f := .int "MOST_CODE" 80) rfl); ⟨_, e, t, rfl⟩
  g_MOST_FRAMES := let ⟨t, e⟩ := He.int_ok X G (c.fact 25 (f := .int "MOST_FRAMES" 20) rfl); ⟨_, e, t, rfl⟩
  g_MOST_LOCALS := let ⟨t, e⟩ := He.int_ok X G (c.fact 26 (f := .int "MOST_LOCALS" 8) rfl); ⟨_, e, t, rfl⟩
  g_MOST_LOCKS := let ⟨t, e⟩ := He.int_ok X G (c.fact 27 (f := .int "MOST_LOCKS" 6) rfl); ⟨_, e, t, rfl⟩
  g_MOST_PARAMS := let ⟨t, e⟩ := He.int_ok X G (c.fact 28 (f := .int "MOST_PARAMS" 4) rfl); ⟨_, e, t, rfl⟩
  g_MOST_PROCS := let ⟨t, e⟩ := He.int_ok X G (c.fact 29 (f := .int "MOST_PROCS" 12) rfl); ⟨_, e, t, rfl⟩
  g_MOST_STEPS := let ⟨t, e⟩ := He.int_ok X G (c.fact 30 (f := .int "MOST_STEPS" 3000) rfl); ⟨_, e, t, rfl⟩
  g_MOST_THREADS := let ⟨t, e⟩ := He.int_ok X G (c.fact 31 (f := .int "MOST_THREADS" 8) rfl); ⟨_, e, t, rfl⟩
  g_OWNER := let ⟨t, e⟩ := He.int_ok X G (c.fact 32 (f := .int "OWNER" (-9)) rfl); ⟨_, e, t, rfl⟩
  n_SHARED := He.glo_ok X G (c.fact 33 (f := .glo "SHARED") rfl)
  t_SHARED := (ex_ok ex).2.1
  g_SMALL := let ⟨t, e⟩ := He.str_ok X G (c.fact 34 (f := .str "SMALL" ⟨#[97, 98, 99, 100, 101, 102, 103, 104, 105, 106, 107, 108, 109, 110, 111, 112, 113, 114, 115, 116, 117, 118, 119, 120, 121, 122]⟩) rfl); ⟨_, e, t, rfl⟩
  g_THREAD := let ⟨t, e⟩ := He.int_ok X G (c.fact 35 (f := .int "THREAD" (-10)) rfl); ⟨_, e, t, rfl⟩
  g_WIDE := let ⟨t, e⟩ := He.int_ok X G (c.fact 36 (f := .int "WIDE" 4294967296) rfl); ⟨_, e, t, rfl⟩
  n_WORKS := He.glo_ok X G (c.fact 37 (f := .glo "WORKS") rfl)
  t_WORKS := (ex_ok ex).1.WORKS
  g_ZERO := let ⟨t, e⟩ := He.int_ok X G (c.fact 38 (f := .int "ZERO" (-3)) rfl); ⟨_, e, t, rfl⟩
  c0 := He.cls_ok (c.fact 39 (f := .cls "Program") rfl)
  mg0 := He.glo_ok X G (c.fact 40 (f := .glo "Program") rfl)
  c1 := He.cls_ok (c.fact 41 (f := .cls "Machine") rfl)
  mg1 := He.glo_ok X G (c.fact 42 (f := .glo "Machine") rfl)
  c2 := He.cls_ok (c.fact 43 (f := .cls "Touched") rfl)
  mg2 := He.glo_ok X G (c.fact 44 (f := .glo "Touched") rfl)
  c3 := He.cls_ok (c.fact 45 (f := .cls "Follows") rfl)
  mg3 := He.glo_ok X G (c.fact 46 (f := .glo "Follows") rfl)
  ic0 := (ex_ok ex).2.2 (He.cls_ok (c.fact 39 (f := .cls "Program") rfl))
  na0_by := He.noat_ok (c.fact 47 (f := .noat "Program" "by") rfl)
  na0_cells := He.noat_ok (c.fact 48 (f := .noat "Program" "cells") rfl)
  na0_locks := He.noat_ok (c.fact 49 (f := .noat "Program" "locks") rfl)
  na0_procs := He.noat_ok (c.fact 50 (f := .noat "Program" "procs") rfl)
  na0_start := He.noat_ok (c.fact 51 (f := .noat "Program" "start") rfl)
  na1_asked := He.noat_ok (c.fact 52 (f := .noat "Machine" "asked") rfl)
  na1_cells := He.noat_ok (c.fact 53 (f := .noat "Machine" "cells") rfl)
  na1_end := He.noat_ok (c.fact 54 (f := .noat "Machine" "end") rfl)
  na1_inputs := He.noat_ok (c.fact 55 (f := .noat "Machine" "inputs") rfl)
  na1_owners := He.noat_ok (c.fact 56 (f := .noat "Machine" "owners") rfl)
  na1_program := He.noat_ok (c.fact 57 (f := .noat "Machine" "program") rfl)
  na1_said := He.noat_ok (c.fact 58 (f := .noat "Machine" "said") rfl)
  na1_steps := He.noat_ok (c.fact 59 (f := .noat "Machine" "steps") rfl)
  na1_threads := He.noat_ok (c.fact 60 (f := .noat "Machine" "threads") rfl)
  na2_last := He.noat_ok (c.fact 61 (f := .noat "Touched" "last") rfl)
  na2_since := He.noat_ok (c.fact 62 (f := .noat "Touched" "since") rfl)
  na3_lots := He.noat_ok (c.fact 63 (f := .noat "Follows" "lots") rfl)
  na3_rows := He.noat_ok (c.fact 64 (f := .noat "Follows" "rows") rfl)
  na3_stays := He.noat_ok (c.fact 65 (f := .noat "Follows" "stays") rfl)
theorem allL {P : Program} {w : World} {K : PySem.W.Frag} {h : Heap} {mg : Str → Option Value} (base : Heap) (X : K.In h) (G : h.Ns mainGlobals mg) (c : He.SaysD fa fnL K) (ex : exB K = true) (zs : List Int) : AllL P w K ⟨ca K, zs⟩ mg base := by
  have Z := fx X G c ex zs
  obtain ⟨fd0, F0⟩ := c.def_ 0 (d := d_law_draws) rfl
  have b0 : Binds K fd0 ["script"] [] := F0.bindsN (fun _ _ _ _ _ _ us hl => match us, hl with | [_], _ => rfl)
  have c_law_draws : Cal P w K ⟨ca K, zs⟩ mg base "_law_draws" 1 mDraws [] [] := ⟨_, fd0, ["script"], [], ok_law_draws Z F0, He.glo_ok X G (c.fact 66 (f := .glo "_law_draws") rfl), F0.kp, b0, .nil, fun _ => .nil⟩
  obtain ⟨fd1, F1⟩ := c.def_ 1 (d := d_law_draw) rfl
  have b1 : Binds K fd1 ["draws", "limit"] [] := F1.bindsN (fun _ _ _ _ _ _ us hl => match us, hl with | [_, _], _ => rfl)
  have c_law_draw : Cal P w K ⟨ca K, zs⟩ mg base "_law_draw" 1 mDraw [] [] := ⟨_, fd1, ["draws", "limit"], [], ok_law_draw Z F1, He.glo_ok X G (c.fact 67 (f := .glo "_law_draw") rfl), F1.kp, b1, .nil, fun _ => .nil⟩
  obtain ⟨fd2, F2⟩ := c.def_ 2 (d := d_is_whole) rfl
  have b2 : Binds K fd2 ["value"] [] := F2.bindsN (fun _ _ _ _ _ _ us hl => match us, hl with | [_], _ => rfl)
  have c_is_whole : Cal P w K ⟨ca K, zs⟩ mg base "is_whole" 1 m_is_whole [] [] := ⟨_, fd2, ["value"], [], ok_is_whole Z F2, He.glo_ok X G (c.fact 68 (f := .glo "is_whole") rfl), F2.kp, b2, .nil, fun _ => .nil⟩
  obtain ⟨fd3, F3⟩ := c.def_ 3 (d := d_is_word) rfl
  have b3 : Binds K fd3 ["value"] [] := F3.bindsN (fun _ _ _ _ _ _ us hl => match us, hl with | [_], _ => rfl)
  have c_is_word : Cal P w K ⟨ca K, zs⟩ mg base "is_word" 2 m_is_word [] [] := ⟨_, fd3, ["value"], [], ok_is_word Z F3 c_is_whole, He.glo_ok X G (c.fact 69 (f := .glo "is_word") rfl), F3.kp, b3, .nil, fun _ => .nil⟩
  obtain ⟨fd4, F4⟩ := c.def_ 4 (d := d_is_name) rfl
  have b4 : Binds K fd4 ["value"] [] := F4.bindsN (fun _ _ _ _ _ _ us hl => match us, hl with | [_], _ => rfl)
  have c_is_name : Cal P w K ⟨ca K, zs⟩ mg base "is_name" 1 m_is_name [] [] := ⟨_, fd4, ["value"], [], ok_is_name Z F4, He.glo_ok X G (c.fact 70 (f := .glo "is_name") rfl), F4.kp, b4, .nil, fun _ => .nil⟩
  obtain ⟨fd5, F5⟩ := c.def_ 5 (d := d_look_at_proc) rfl
  have b5 : Binds K fd5 ["program", "one"] [] := F5.bindsN (fun _ _ _ _ _ _ us hl => match us, hl with | [_, _], _ => rfl)
  have c_look_at_proc : Cal P w K ⟨ca K, zs⟩ mg base "look_at_proc" 2 m_look_at_proc [] [] := ⟨_, fd5, ["program", "one"], [], ok_look_at_proc Z F5 c_is_name c_is_whole, He.glo_ok X G (c.fact 71 (f := .glo "look_at_proc") rfl), F5.kp, b5, .nil, fun _ => .nil⟩
  obtain ⟨fd6, F6⟩ := c.def_ 6 (d := d_is_place) rfl
  have b6 : Binds K fd6 ["proc", "value"] [] := F6.bindsN (fun _ _ _ _ _ _ us hl => match us, hl with | [_, _], _ => rfl)
  have c_is_place : Cal P w K ⟨ca K, zs⟩ mg base "is_place" 2 m_is_place [] [] := ⟨_, fd6, ["proc", "value"], [], ok_is_place Z F6 c_is_whole, He.glo_ok X G (c.fact 72 (f := .glo "is_place") rfl), F6.kp, b6, .nil, fun _ => .nil⟩
  obtain ⟨fd7, F7⟩ := c.def_ 7 (d := d_is_instruction) rfl
  have b7 : Binds K fd7 ["program", "proc", "value"] [] := F7.bindsN (fun _ _ _ _ _ _ us hl => match us, hl with | [_, _, _], _ => rfl)
  have c_is_instruction : Cal P w K ⟨ca K, zs⟩ mg base "is_instruction" 3 m_is_instruction [] [] := ⟨_, fd7, ["program", "proc", "value"], [], ok_is_instruction Z F7 c_is_place c_is_word c_is_whole c_is_name, He.glo_ok X G (c.fact 73 (f := .glo "is_instruction") rfl), F7.kp, b7, .nil, fun _ => .nil⟩
  obtain ⟨fd8, F8⟩ := c.def_ 8 (d := d_Program_init) rfl
  have b8 : Binds K fd8 ["self", "cells", "locks", "procs", "start"] [] := F8.bindsN (fun _ _ _ _ _ _ us hl => match us, hl with | [_, _, _, _, _], _ => rfl)
  have c_Program_init : CalI P w K ⟨ca K, zs⟩ mg base 0 "Program" 4 m_Program_init [] [] := ⟨_, fd8, ["self", "cells", "locks", "procs", "start"], [], ok_Program_init Z F8 c_is_word c_is_whole c_look_at_proc c_is_instruction c_is_name, He.mkr_ok (c.fact 74 (f := .mkr "Program") rfl), Z.mg0, b8, .nil, fun _ => .nil⟩
  obtain ⟨fd9, F9⟩ := c.def_ 9 (d := d_law_made) rfl
  have b9 : Binds K fd9 ["start", "work", "cells", "locks"] [] := F9.bindsN (fun _ _ _ _ _ _ us hl => match us, hl with | [_, _, _, _], _ => rfl)
  have c_law_made : Cal P w K ⟨ca K, zs⟩ mg base "_law_made" 6 m_law_made [] [] := ⟨_, fd9, ["start", "work", "cells", "locks"], [], ok_law_made Z F9 c_Program_init, He.glo_ok X G (c.fact 75 (f := .glo "_law_made") rfl), F9.kp, b9, .nil, fun _ => .nil⟩
  obtain ⟨fd10, F10⟩ := c.def_ 10 (d := d_law_same) rfl
  have b10 : Binds K fd10 ["actual", "expected"] [] := F10.bindsN (fun _ _ _ _ _ _ us hl => match us, hl with | [_, _], _ => rfl)
  have g10 := He.glo_ok X G (c.fact 76 (f := .glo "_law_same") rfl)
  have c_law_same : Cal P w K ⟨ca K, zs⟩ mg base "_law_same" 13 (m_law_same 12) [] [] := ⟨_, fd10, ["actual", "expected"], [], ok_law_same Z F10 g10 F10.kp b10 12, g10, F10.kp, b10, .nil, fun _ => .nil⟩
  obtain ⟨fd11, F11⟩ := c.def_ 11 (d := d_is_weaving) rfl
  have b11 : Binds K fd11 ["value"] [] := F11.bindsN (fun _ _ _ _ _ _ us hl => match us, hl with | [_], _ => rfl)
  have c_is_weaving : Cal P w K ⟨ca K, zs⟩ mg base "is_weaving" 2 m_is_weaving [] [] := ⟨_, fd11, ["value"], [], ok_is_weaving Z F11 c_is_whole, He.glo_ok X G (c.fact 77 (f := .glo "is_weaving") rfl), F11.kp, b11, .nil, fun _ => .nil⟩
  obtain ⟨fd12, F12⟩ := c.def_ 12 (d := d_look_at_weaving) rfl
  have b12 : Binds K fd12 ["value"] [] := F12.bindsN (fun _ _ _ _ _ _ us hl => match us, hl with | [_], _ => rfl)
  have c_look_at_weaving : Cal P w K ⟨ca K, zs⟩ mg base "look_at_weaving" 3 m_look_at_weaving [] [] := ⟨_, fd12, ["value"], [], ok_look_at_weaving Z F12 c_is_weaving, He.glo_ok X G (c.fact 78 (f := .glo "look_at_weaving") rfl), F12.kp, b12, .nil, fun _ => .nil⟩
  obtain ⟨fd13, F13⟩ := c.def_ 13 (d := d_look_at_program) rfl
  have b13 : Binds K fd13 ["value"] [] := F13.bindsN (fun _ _ _ _ _ _ us hl => match us, hl with | [_], _ => rfl)
  have c_look_at_program : Cal P w K ⟨ca K, zs⟩ mg base "look_at_program" 1 m_look_at_program [] [] := ⟨_, fd13, ["value"], [], ok_look_at_program Z F13, He.glo_ok X G (c.fact 79 (f := .glo "look_at_program") rfl), F13.kp, b13, .nil, fun _ => .nil⟩
  obtain ⟨fd14, F14⟩ := c.def_ 14 (d := d_Machine_begin) rfl
  have b14 : Binds K fd14 ["self", "name", "values"] [] := F14.bindsN (fun _ _ _ _ _ _ us hl => match us, hl with | [_, _, _], _ => rfl)
  have c_Machine_begin : CalM P w K ⟨ca K, zs⟩ mg base 1 "begin" 1 m_Machine_begin [] [] := ⟨_, fd14, ["self", "name", "values"], [], ok_Machine_begin Z F14, Z.c1, He.meth_ok (c.fact 80 (f := .meth "Machine" "begin") rfl), b14, .nil, fun _ => .nil⟩
  obtain ⟨fd15, F15⟩ := c.def_ 15 (d := d_Machine_init) rfl
  have b15 : Binds K fd15 ["self", "program", "inputs"] [] := F15.bindsN (fun _ _ _ _ _ _ us hl => match us, hl with | [_, _, _], _ => rfl)
  have c_Machine_init : CalI P w K ⟨ca K, zs⟩ mg base 1 "Machine" 3 m_Machine_init [] [] := ⟨_, fd15, ["self", "program", "inputs"], [], ok_Machine_init Z F15 c_look_at_program c_is_word c_Machine_begin, He.mkr_ok (c.fact 81 (f := .mkr "Machine") rfl), Z.mg1, b15, .nil, fun _ => .nil⟩
  obtain ⟨fd16, F16⟩ := c.def_ 16 (d := d_Machine_next_one) rfl
  have b16 : Binds K fd16 ["self", "thread"] [] := F16.bindsN (fun _ _ _ _ _ _ us hl => match us, hl with | [_, _], _ => rfl)
  have c_Machine_next_one : CalM P w K ⟨ca K, zs⟩ mg base 1 "next_one" 1 m_Machine_next_one [] [] := ⟨_, fd16, ["self", "thread"], [], ok_Machine_next_one Z F16, Z.c1, He.meth_ok (c.fact 82 (f := .meth "Machine" "next_one") rfl), b16, .nil, fun _ => .nil⟩
  obtain ⟨fd17, F17⟩ := c.def_ 17 (d := d_Machine_is_other) rfl
  have b17 : Binds K fd17 ["self", "thread", "number"] [] := F17.bindsN (fun _ _ _ _ _ _ us hl => match us, hl with | [_, _, _], _ => rfl)
  have c_Machine_is_other : CalM P w K ⟨ca K, zs⟩ mg base 1 "is_other" 1 m_Machine_is_other [] [] := ⟨_, fd17, ["self", "thread", "number"], [], ok_Machine_is_other Z F17, Z.c1, He.meth_ok (c.fact 83 (f := .meth "Machine" "is_other") rfl), b17, .nil, fun _ => .nil⟩
  obtain ⟨fd18, F18⟩ := c.def_ 18 (d := d_Machine_waits) rfl
  have b18 : Binds K fd18 ["self", "thread"] [] := F18.bindsN (fun _ _ _ _ _ _ us hl => match us, hl with | [_, _], _ => rfl)
  have c_Machine_waits : CalM P w K ⟨ca K, zs⟩ mg base 1 "waits" 2 m_Machine_waits [] [] := ⟨_, fd18, ["self", "thread"], [], ok_Machine_waits Z F18 c_Machine_next_one c_Machine_is_other, Z.c1, He.meth_ok (c.fact 84 (f := .meth "Machine" "waits") rfl), b18, .nil, fun _ => .nil⟩
  obtain ⟨fd19, F19⟩ := c.def_ 19 (d := d_Machine_may_go) rfl
  have b19 : Binds K fd19 ["self"] [] := F19.bindsN (fun _ _ _ _ _ _ us hl => match us, hl with | [_], _ => rfl)
  have c_Machine_may_go : CalM P w K ⟨ca K, zs⟩ mg base 1 "may_go" 3 m_Machine_may_go [] [] := ⟨_, fd19, ["self"], [], ok_Machine_may_go Z F19 c_Machine_waits, Z.c1, He.meth_ok (c.fact 85 (f := .meth "Machine" "may_go") rfl), b19, .nil, fun _ => .nil⟩
  obtain ⟨fd20, F20⟩ := c.def_ 20 (d := d_touches_of) rfl
  have b20 : Binds K fd20 ["machine", "thread"] [] := F20.bindsN (fun _ _ _ _ _ _ us hl => match us, hl with | [_, _], _ => rfl)
  have c_touches_of : Cal P w K ⟨ca K, zs⟩ mg base "touches_of" 2 m_touches_of [] [] := ⟨_, fd20, ["machine", "thread"], [], ok_touches_of Z F20 c_Machine_next_one, He.glo_ok X G (c.fact 86 (f := .glo "touches_of") rfl), F20.kp, b20, .nil, fun _ => .nil⟩
  obtain ⟨fd21, F21⟩ := c.def_ 21 (d := d_needs) rfl
  have b21 : Binds K fd21 ["program", "op"] [] := F21.bindsN (fun _ _ _ _ _ _ us hl => match us, hl with | [_, _], _ => rfl)
  have c_needs : Cal P w K ⟨ca K, zs⟩ mg base "needs" 1 m_needs [] [] := ⟨_, fd21, ["program", "op"], [], ok_needs Z F21, He.glo_ok X G (c.fact 87 (f := .glo "needs") rfl), F21.kp, b21, .nil, fun _ => .nil⟩
  obtain ⟨fd22, F22⟩ := c.def_ 22 (d := d_Machine_pass_on) rfl
  have b22 : Binds K fd22 ["self", "thread", "frame", "op"] [] := F22.bindsN (fun _ _ _ _ _ _ us hl => match us, hl with | [_, _, _, _], _ => rfl)
  have c_Machine_pass_on : CalM P w K ⟨ca K, zs⟩ mg base 1 "pass_on" 2 m_Machine_pass_on [] [] := ⟨_, fd22, ["self", "thread", "frame", "op"], [], ok_Machine_pass_on Z F22 c_Machine_is_other c_Machine_begin, Z.c1, He.meth_ok (c.fact 88 (f := .meth "Machine" "pass_on") rfl), b22, .nil, fun _ => .nil⟩
  obtain ⟨fd23, F23⟩ := c.def_ 23 (d := d_Machine_cell) rfl
  have b23 : Binds K fd23 ["self", "frame", "op"] [] := F23.bindsN (fun _ _ _ _ _ _ us hl => match us, hl with | [_, _, _], _ => rfl)
  have c_Machine_cell : CalM P w K ⟨ca K, zs⟩ mg base 1 "cell" 1 m_Machine_cell [] [] := ⟨_, fd23, ["self", "frame", "op"], [], ok_Machine_cell Z F23, Z.c1, He.meth_ok (c.fact 89 (f := .meth "Machine" "cell") rfl), b23, .nil, fun _ => .nil⟩
  obtain ⟨fd24, F24⟩ := c.def_ 24 (d := d_Machine_shared) rfl
  have b24 : Binds K fd24 ["self", "thread", "frame", "op"] [] := F24.bindsN (fun _ _ _ _ _ _ us hl => match us, hl with | [_, _, _, _], _ => rfl)
  have c_Machine_shared : CalM P w K ⟨ca K, zs⟩ mg base 1 "shared" 1 m_Machine_shared [] [] := ⟨_, fd24, ["self", "thread", "frame", "op"], [], ok_Machine_shared Z F24, Z.c1, He.meth_ok (c.fact 90 (f := .meth "Machine" "shared") rfl), b24, .nil, fun _ => .nil⟩
  obtain ⟨fd25, F25⟩ := c.def_ 25 (d := d_wrap) rfl
  have b25 : Binds K fd25 ["number"] [] := F25.bindsN (fun _ _ _ _ _ _ us hl => match us, hl with | [_], _ => rfl)
  have c_wrap : Cal P w K ⟨ca K, zs⟩ mg base "wrap" 1 m_wrap [] [] := ⟨_, fd25, ["number"], [], ok_wrap Z F25, He.glo_ok X G (c.fact 91 (f := .glo "wrap") rfl), F25.kp, b25, .nil, fun _ => .nil⟩
  obtain ⟨fd26, F26⟩ := c.def_ 26 (d := d_divided) rfl
  have b26 : Binds K fd26 ["name", "one", "two"] [] := F26.bindsN (fun _ _ _ _ _ _ us hl => match us, hl with | [_, _, _], _ => rfl)
  have c_divided : Cal P w K ⟨ca K, zs⟩ mg base "divided" 2 m_divided [] [] := ⟨_, fd26, ["name", "one", "two"], [], ok_divided Z F26 c_wrap, He.glo_ok X G (c.fact 92 (f := .glo "divided") rfl), F26.kp, b26, .nil, fun _ => .nil⟩
  obtain ⟨fd27, F27⟩ := c.def_ 27 (d := d_worked) rfl
  have b27 : Binds K fd27 ["name", "one", "two"] [] := F27.bindsN (fun _ _ _ _ _ _ us hl => match us, hl with | [_, _, _], _ => rfl)
  have c_worked : Cal P w K ⟨ca K, zs⟩ mg base "worked" 3 m_worked [] [] := ⟨_, fd27, ["name", "one", "two"], [], ok_worked Z F27 c_wrap c_divided, He.glo_ok X G (c.fact 93 (f := .glo "worked") rfl), F27.kp, b27, .nil, fun _ => .nil⟩
  obtain ⟨fd28, F28⟩ := c.def_ 28 (d := d_Machine_plain) rfl
  have b28 : Binds K fd28 ["self", "frame", "op"] [] := F28.bindsN (fun _ _ _ _ _ _ us hl => match us, hl with | [_, _, _], _ => rfl)
  have c_Machine_plain : CalM P w K ⟨ca K, zs⟩ mg base 1 "plain" 4 m_Machine_plain [] [] := ⟨_, fd28, ["self", "frame", "op"], [], ok_Machine_plain Z F28 c_worked c_wrap, Z.c1, He.meth_ok (c.fact 94 (f := .meth "Machine" "plain") rfl), b28, .nil, fun _ => .nil⟩
  obtain ⟨fd29, F29⟩ := c.def_ 29 (d := d_Machine_done) rfl
  have b29 : Binds K fd29 ["self", "thread", "frame", "op"] [] := F29.bindsN (fun _ _ _ _ _ _ us hl => match us, hl with | [_, _, _, _], _ => rfl)
  have c_Machine_done : CalM P w K ⟨ca K, zs⟩ mg base 1 "done" 5 m_Machine_done [] [] := ⟨_, fd29, ["self", "thread", "frame", "op"], [], ok_Machine_done Z F29 c_Machine_pass_on c_Machine_cell c_Machine_shared c_Machine_plain, Z.c1, He.meth_ok (c.fact 95 (f := .meth "Machine" "done") rfl), b29, .nil, fun _ => .nil⟩
  obtain ⟨fd30, F30⟩ := c.def_ 30 (d := d_Machine_step) rfl
  have b30 : Binds K fd30 ["self", "thread"] [] := F30.bindsN (fun _ _ _ _ _ _ us hl => match us, hl with | [_, _], _ => rfl)
  have c_Machine_step : CalM P w K ⟨ca K, zs⟩ mg base 1 "step" 6 m_Machine_step [] [] := ⟨_, fd30, ["self", "thread"], [], ok_Machine_step Z F30 c_is_whole c_Machine_may_go c_Machine_next_one c_needs c_Machine_done, Z.c1, He.meth_ok (c.fact 96 (f := .meth "Machine" "step") rfl), b30, .nil, fun _ => .nil⟩
  obtain ⟨fd31, F31⟩ := c.def_ 31 (d := d_event_of) rfl
  have b31 : Binds K fd31 ["machine", "thread", "number"] [] := F31.bindsN (fun _ _ _ _ _ _ us hl => match us, hl with | [_, _, _], _ => rfl)
  have c_event_of : Cal P w K ⟨ca K, zs⟩ mg base "event_of" 7 m_event_of [] [] := ⟨_, fd31, ["machine", "thread", "number"], [], ok_event_of Z F31 c_Machine_may_go c_touches_of c_Machine_step, He.glo_ok X G (c.fact 97 (f := .glo "event_of") rfl), F31.kp, b31, .nil, fun _ => .nil⟩
  obtain ⟨fd32, F32⟩ := c.def_ 32 (d := d_events) rfl
  have b32 : Binds K fd32 ["program", "inputs", "weaving"] [] := F32.bindsN (fun _ _ _ _ _ _ us hl => match us, hl with | [_, _, _], _ => rfl)
  have c_events : Cal P w K ⟨ca K, zs⟩ mg base "events" 8 m_events [] [] := ⟨_, fd32, ["program", "inputs", "weaving"], [], ok_events Z F32 c_look_at_weaving c_Machine_init c_event_of, He.glo_ok X G (c.fact 98 (f := .glo "events") rfl), F32.kp, b32, .nil, fun _ => .nil⟩
  obtain ⟨fd33, F33⟩ := c.def_ 33 (d := d_Follows_init) rfl
  have b33 : Binds K fd33 ["self", "rows"] [] := F33.bindsN (fun _ _ _ _ _ _ us hl => match us, hl with | [_, _], _ => rfl)
  have c_Follows_init : CalI P w K ⟨ca K, zs⟩ mg base 3 "Follows" 1 m_Follows_init [] [] := ⟨_, fd33, ["self", "rows"], [], ok_Follows_init Z F33, He.mkr_ok (c.fact 99 (f := .mkr "Follows") rfl), Z.mg3, b33, .nil, fun _ => .nil⟩
  obtain ⟨fd34, F34⟩ := c.def_ 34 (d := d_Touched_init) rfl
  have b34 : Binds K fd34 ["self"] [] := F34.bindsN (fun _ _ _ _ _ _ us hl => match us, hl with | [_], _ => rfl)
  have c_Touched_init : CalI P w K ⟨ca K, zs⟩ mg base 2 "Touched" 1 m_Touched_init [] [] := ⟨_, fd34, ["self"], [], ok_Touched_init Z F34, He.mkr_ok (c.fact 100 (f := .mkr "Touched") rfl), Z.mg2, b34, .nil, fun _ => .nil⟩
  obtain ⟨fd35, F35⟩ := c.def_ 35 (d := d_joined_by) rfl
  have b35 : Binds K fd35 ["event"] [] := F35.bindsN (fun _ _ _ _ _ _ us hl => match us, hl with | [_], _ => rfl)
  have c_joined_by : Cal P w K ⟨ca K, zs⟩ mg base "joined_by" 1 m_joined_by [] [] := ⟨_, fd35, ["event"], [], ok_joined_by Z F35, He.glo_ok X G (c.fact 101 (f := .glo "joined_by") rfl), F35.kp, b35, .nil, fun _ => .nil⟩
  obtain ⟨fd36, F36⟩ := c.def_ 36 (d := d_spawned_by) rfl
  have b36 : Binds K fd36 ["event"] [] := F36.bindsN (fun _ _ _ _ _ _ us hl => match us, hl with | [_], _ => rfl)
  have c_spawned_by : Cal P w K ⟨ca K, zs⟩ mg base "spawned_by" 1 m_spawned_by [] [] := ⟨_, fd36, ["event"], [], ok_spawned_by Z F36, He.glo_ok X G (c.fact 102 (f := .glo "spawned_by") rfl), F36.kp, b36, .nil, fun _ => .nil⟩
  obtain ⟨fd37, F37⟩ := c.def_ 37 (d := d_spawn_for) rfl
  have b37 : Binds K fd37 ["rows", "index"] [] := F37.bindsN (fun _ _ _ _ _ _ us hl => match us, hl with | [_, _], _ => rfl)
  have c_spawn_for : Cal P w K ⟨ca K, zs⟩ mg base "spawn_for" 2 m_spawn_for [] [] := ⟨_, fd37, ["rows", "index"], [], ok_spawn_for Z F37 c_joined_by c_spawned_by, He.glo_ok X G (c.fact 103 (f := .glo "spawn_for") rfl), F37.kp, b37, .nil, fun _ => .nil⟩
  obtain ⟨fd38, F38⟩ := c.def_ 38 (d := d_line_before) rfl
  have b38 : Binds K fd38 ["rows", "index"] [] := F38.bindsN (fun _ _ _ _ _ _ us hl => match us, hl with | [_, _], _ => rfl)
  have c_line_before : Cal P w K ⟨ca K, zs⟩ mg base "line_before" 2 m_line_before [] [] := ⟨_, fd38, ["rows", "index"], [], ok_line_before Z F38 c_spawned_by, He.glo_ok X G (c.fact 104 (f := .glo "line_before") rfl), F38.kp, b38, .nil, fun _ => .nil⟩
  obtain ⟨fd39, F39⟩ := c.def_ 39 (d := d_own_before) rfl
  have b39 : Binds K fd39 ["rows", "index"] [] := F39.bindsN (fun _ _ _ _ _ _ us hl => match us, hl with | [_, _], _ => rfl)
  have c_own_before : Cal P w K ⟨ca K, zs⟩ mg base "own_before" 3 m_own_before [] [] := ⟨_, fd39, ["rows", "index"], [], ok_own_before Z F39 c_line_before c_joined_by, He.glo_ok X G (c.fact 105 (f := .glo "own_before") rfl), F39.kp, b39, .nil, fun _ => .nil⟩
  obtain ⟨fd40, F40⟩ := c.def_ 40 (d := d_Follows_closed) rfl
  have b40 : Binds K fd40 ["self", "index", "lot"] [] := F40.bindsN (fun _ _ _ _ _ _ us hl => match us, hl with | [_, _, _], _ => rfl)
  have c_Follows_closed : CalM P w K ⟨ca K, zs⟩ mg base 3 "closed" 1 m_Follows_closed [] [] := ⟨_, fd40, ["self", "index", "lot"], [], ok_Follows_closed Z F40, Z.c3, He.meth_ok (c.fact 106 (f := .meth "Follows" "closed") rfl), b40, .nil, fun _ => .nil⟩
  obtain ⟨fd41, F41⟩ := c.def_ 41 (d := d_Follows_begin) rfl
  obtain ⟨dsf41, vf41, bf41⟩ := F41.binds1 (ps := ["self", "index", "alone"]) 3 1 (by intro z; cases z) (by rfl) fun _ _ _ _ _ _ _ us its hu hi => match us, its, hu, hi with | [_, _, _], [_], _, _ => ⟨_, rfl, rfl⟩
  obtain ⟨dsd41, vd41, bd41⟩ := F41.binds1 (ps := ["self", "index", "alone"]) 2 0 (by intro z; cases z) (by rfl) fun _ _ _ _ _ _ _ us its hu hi => match us, its, hu, hi with | [_, _], [_], _, _ => ⟨_, rfl, rfl⟩
  have o41 := ok_Follows_begin (P := P) (w := w) (base := base) Z F41 c_line_before c_own_before c_Follows_closed
  have c_Follows_begin : CalM P w K ⟨ca K, zs⟩ mg base 3 "begin" 4 m_Follows_begin [] [] := ⟨_, fd41, ["self", "index", "alone"], dsf41, o41, Z.c3, He.meth_ok (c.fact 107 (f := .meth "Follows" "begin") rfl), bf41, vf41, fun _ => .nil⟩
  have c_Follows_begin_d : CalM P w K ⟨ca K, zs⟩ mg base 3 "begin" 4 m_Follows_begin [.bl false] [.bl false] := ⟨_, fd41, ["self", "index", "alone"], dsd41, o41, Z.c3, He.meth_ok (c.fact 107 (f := .meth "Follows" "begin") rfl), bd41, vd41, fun _ => .cons rfl .nil⟩
  obtain ⟨fd42, F42⟩ := c.def_ 42 (d := d_name_of) rfl
  have b42 : Binds K fd42 ["event"] [] := F42.bindsN (fun _ _ _ _ _ _ us hl => match us, hl with | [_], _ => rfl)
  have c_name_of : Cal P w K ⟨ca K, zs⟩ mg base "name_of" 1 m_name_of [] [] := ⟨_, fd42, ["event"], [], ok_name_of Z F42, He.glo_ok X G (c.fact 108 (f := .glo "name_of") rfl), F42.kp, b42, .nil, fun _ => .nil⟩
  obtain ⟨fd43, F43⟩ := c.def_ 43 (d := d_Touched_met) rfl
  have b43 : Binds K fd43 ["self", "event"] [] := F43.bindsN (fun _ _ _ _ _ _ us hl => match us, hl with | [_, _], _ => rfl)
  have c_Touched_met : CalM P w K ⟨ca K, zs⟩ mg base 2 "met" 1 m_Touched_met [] [] := ⟨_, fd43, ["self", "event"], [], ok_Touched_met Z F43, Z.c2, He.meth_ok (c.fact 109 (f := .meth "Touched" "met") rfl), b43, .nil, fun _ => .nil⟩
  obtain ⟨fd44, F44⟩ := c.def_ 44 (d := d_Follows_joined) rfl
  have b44 : Binds K fd44 ["self", "index", "lot", "at"] [] := F44.bindsN (fun _ _ _ _ _ _ us hl => match us, hl with | [_, _, _, _], _ => rfl)
  have c_Follows_joined : CalM P w K ⟨ca K, zs⟩ mg base 3 "joined" 2 m_Follows_joined [] [] := ⟨_, fd44, ["self", "index", "lot", "at"], [], ok_Follows_joined Z F44 c_Follows_closed, Z.c3, He.meth_ok (c.fact 110 (f := .meth "Follows" "joined") rfl), b44, .nil, fun _ => .nil⟩
  obtain ⟨fd45, F45⟩ := c.def_ 45 (d := d_is_fault) rfl
  have b45 : Binds K fd45 ["event"] [] := F45.bindsN (fun _ _ _ _ _ _ us hl => match us, hl with | [_], _ => rfl)
  have c_is_fault : Cal P w K ⟨ca K, zs⟩ mg base "is_fault" 1 m_is_fault [] [] := ⟨_, fd45, ["event"], [], ok_is_fault Z F45, He.glo_ok X G (c.fact 111 (f := .glo "is_fault") rfl), F45.kp, b45, .nil, fun _ => .nil⟩
  obtain ⟨fd46, F46⟩ := c.def_ 46 (d := d_Follows_take) rfl
  have b46 : Binds K fd46 ["self", "index", "lot"] [] := F46.bindsN (fun _ _ _ _ _ _ us hl => match us, hl with | [_, _, _], _ => rfl)
  have c_Follows_take : CalM P w K ⟨ca K, zs⟩ mg base 3 "take" 2 m_Follows_take [] [] := ⟨_, fd46, ["self", "index", "lot"], [], ok_Follows_take Z F46 c_is_fault, Z.c3, He.meth_ok (c.fact 112 (f := .meth "Follows" "take") rfl), b46, .nil, fun _ => .nil⟩
  obtain ⟨fd47, F47⟩ := c.def_ 47 (d := d_Touched_take) rfl
  have b47 : Binds K fd47 ["self", "index", "event"] [] := F47.bindsN (fun _ _ _ _ _ _ us hl => match us, hl with | [_, _, _], _ => rfl)
  have c_Touched_take : CalM P w K ⟨ca K, zs⟩ mg base 2 "take" 1 m_Touched_take [] [] := ⟨_, fd47, ["self", "index", "event"], [], ok_Touched_take Z F47, Z.c2, He.meth_ok (c.fact 113 (f := .meth "Touched" "take") rfl), b47, .nil, fun _ => .nil⟩
  obtain ⟨fd48, F48⟩ := c.def_ 48 (d := d_counts_of) rfl
  have b48 : Binds K fd48 ["rows"] [] := F48.bindsN (fun _ _ _ _ _ _ us hl => match us, hl with | [_], _ => rfl)
  have c_counts_of : Cal P w K ⟨ca K, zs⟩ mg base "counts_of" 1 m_counts_of [] [] := ⟨_, fd48, ["rows"], [], ok_counts_of Z F48, He.glo_ok X G (c.fact 114 (f := .glo "counts_of") rfl), F48.kp, b48, .nil, fun _ => .nil⟩
  obtain ⟨fd49, F49⟩ := c.def_ 49 (d := d_least_log) rfl
  have b49 : Binds K fd49 ["program", "inputs", "weaving"] [] := F49.bindsN (fun _ _ _ _ _ _ us hl => match us, hl with | [_, _, _], _ => rfl)
  have c_least_log : Cal P w K ⟨ca K, zs⟩ mg base "least_log" 9 m_least_log [] [] := ⟨_, fd49, ["program", "inputs", "weaving"], [], ok_least_log Z F49 c_events c_Follows_init c_Touched_init c_spawn_for c_Follows_begin_d c_Follows_begin c_name_of c_Touched_met c_Follows_joined c_Follows_take c_Touched_take c_counts_of, He.glo_ok X G (c.fact 115 (f := .glo "least_log") rfl), F49.kp, b49, .nil, fun _ => .nil⟩
  obtain ⟨fd50, F50⟩ := c.def_ 50 (d := d_names_in) rfl
  have b50 : Binds K fd50 ["weaving"] [] := F50.bindsN (fun _ _ _ _ _ _ us hl => match us, hl with | [_], _ => rfl)
  have c_names_in : Cal P w K ⟨ca K, zs⟩ mg base "names_in" 1 m_names_in [] [] := ⟨_, fd50, ["weaving"], [], ok_names_in Z F50, He.glo_ok X G (c.fact 116 (f := .glo "names_in") rfl), F50.kp, b50, .nil, fun _ => .nil⟩
  obtain ⟨fd51, F51⟩ := c.def_ 51 (d := d_turned) rfl
  have b51 : Binds K fd51 ["program", "inputs", "weaving", "pair"] [] := F51.bindsN (fun _ _ _ _ _ _ us hl => match us, hl with | [_, _, _, _], _ => rfl)
  have c_turned : Cal P w K ⟨ca K, zs⟩ mg base "turned" 10 m_turned [] [] := ⟨_, fd51, ["program", "inputs", "weaving", "pair"], [], ok_turned Z F51 c_events c_least_log c_names_in c_Follows_init c_Follows_begin_d c_Follows_begin c_spawn_for c_name_of c_Follows_joined c_Follows_take, He.glo_ok X G (c.fact 117 (f := .glo "turned") rfl), F51.kp, b51, .nil, fun _ => .nil⟩
  obtain ⟨fd52, F52⟩ := c.def_ 52 (d := d_is_event_name) rfl
  have b52 : Binds K fd52 ["counts", "value"] [] := F52.bindsN (fun _ _ _ _ _ _ us hl => match us, hl with | [_, _], _ => rfl)
  have c_is_event_name : Cal P w K ⟨ca K, zs⟩ mg base "is_event_name" 2 m_is_event_name [] [] := ⟨_, fd52, ["counts", "value"], [], ok_is_event_name Z F52 c_is_whole, He.glo_ok X G (c.fact 118 (f := .glo "is_event_name") rfl), F52.kp, b52, .nil, fun _ => .nil⟩
  obtain ⟨fd53, F53⟩ := c.def_ 53 (d := d_is_log) rfl
  have b53 : Binds K fd53 ["value"] [] := F53.bindsN (fun _ _ _ _ _ _ us hl => match us, hl with | [_], _ => rfl)
  have c_is_log : Cal P w K ⟨ca K, zs⟩ mg base "is_log" 3 m_is_log [] [] := ⟨_, fd53, ["value"], [], ok_is_log Z F53 c_is_whole c_is_event_name, He.glo_ok X G (c.fact 119 (f := .glo "is_log") rfl), F53.kp, b53, .nil, fun _ => .nil⟩
  obtain ⟨fd54, F54⟩ := c.def_ 54 (d := d_look_at_log) rfl
  have b54 : Binds K fd54 ["value"] [] := F54.bindsN (fun _ _ _ _ _ _ us hl => match us, hl with | [_], _ => rfl)
  have c_look_at_log : Cal P w K ⟨ca K, zs⟩ mg base "look_at_log" 4 m_look_at_log [] [] := ⟨_, fd54, ["value"], [], ok_look_at_log Z F54 c_is_log, He.glo_ok X G (c.fact 120 (f := .glo "look_at_log") rfl), F54.kp, b54, .nil, fun _ => .nil⟩
  obtain ⟨fd55, F55⟩ := c.def_ 55 (d := d_fits) rfl
  have b55 : Binds K fd55 ["program", "inputs", "value"] [] := F55.bindsN (fun _ _ _ _ _ _ us hl => match us, hl with | [_, _, _], _ => rfl)
  have c_fits : Cal P w K ⟨ca K, zs⟩ mg base "fits" 7 m_fits [] [] := ⟨_, fd55, ["program", "inputs", "value"], [], ok_fits Z F55 c_is_weaving c_Machine_init c_Machine_may_go c_Machine_step, He.glo_ok X G (c.fact 121 (f := .glo "fits") rfl), F55.kp, b55, .nil, fun _ => .nil⟩
  obtain ⟨fd56, F56⟩ := c.def_ 56 (d := d_turned_right) rfl
  have b56 : Binds K fd56 ["program", "inputs", "log", "pair", "value"] [] := F56.bindsN (fun _ _ _ _ _ _ us hl => match us, hl with | [_, _, _, _, _], _ => rfl)
  have c_turned_right : Cal P w K ⟨ca K, zs⟩ mg base "turned_right" 8 m_turned_right [] [] := ⟨_, fd56, ["program", "inputs", "log", "pair", "value"], [], ok_turned_right Z F56 c_look_at_log c_is_weaving c_fits c_names_in, He.glo_ok X G (c.fact 122 (f := .glo "turned_right") rfl), F56.kp, b56, .nil, fun _ => .nil⟩
  obtain ⟨fd57, F57⟩ := c.def_ 57 (d := d_picture) rfl
  have b57 : Binds K fd57 ["machine"] [] := F57.bindsN (fun _ _ _ _ _ _ us hl => match us, hl with | [_], _ => rfl)
  have c_picture : Cal P w K ⟨ca K, zs⟩ mg base "picture" 1 m_picture [] [] := ⟨_, fd57, ["machine"], [], ok_picture Z F57, He.glo_ok X G (c.fact 123 (f := .glo "picture") rfl), F57.kp, b57, .nil, fun _ => .nil⟩
  obtain ⟨fd58, F58⟩ := c.def_ 58 (d := d_run) rfl
  have b58 : Binds K fd58 ["program", "inputs", "weaving"] [] := F58.bindsN (fun _ _ _ _ _ _ us hl => match us, hl with | [_, _, _], _ => rfl)
  have c_run : Cal P w K ⟨ca K, zs⟩ mg base "run" 7 m_run [] [] := ⟨_, fd58, ["program", "inputs", "weaving"], [], ok_run Z F58 c_look_at_weaving c_Machine_init c_Machine_step, He.glo_ok X G (c.fact 124 (f := .glo "run") rfl), F58.kp, b58, .nil, fun _ => .nil⟩
  obtain ⟨fd59, F59⟩ := c.def_ 59 (d := d_may_do) rfl
  have b59 : Binds K fd59 ["log", "needs", "done", "thread", "last"] [] := F59.bindsN (fun _ _ _ _ _ _ us hl => match us, hl with | [_, _, _, _, _], _ => rfl)
  have c_may_do : Cal P w K ⟨ca K, zs⟩ mg base "may_do" 1 m_may_do [] [] := ⟨_, fd59, ["log", "needs", "done", "thread", "last"], [], ok_may_do Z F59, He.glo_ok X G (c.fact 125 (f := .glo "may_do") rfl), F59.kp, b59, .nil, fun _ => .nil⟩
  obtain ⟨fd60, F60⟩ := c.def_ 60 (d := d_faults_at_last) rfl
  have b60 : Binds K fd60 ["program", "inputs", "log", "thread"] [] := F60.bindsN (fun _ _ _ _ _ _ us hl => match us, hl with | [_, _, _, _], _ => rfl)
  have c_faults_at_last : Cal P w K ⟨ca K, zs⟩ mg base "faults_at_last" 7 m_faults_at_last [] [] := ⟨_, fd60, ["program", "inputs", "log", "thread"], [], ok_faults_at_last Z F60 c_Machine_init c_Machine_may_go c_may_do c_Machine_step, He.glo_ok X G (c.fact 126 (f := .glo "faults_at_last") rfl), F60.kp, b60, .nil, fun _ => .nil⟩
  obtain ⟨fd61, F61⟩ := c.def_ 61 (d := d_last_of) rfl
  have b61 : Binds K fd61 ["program", "inputs", "log"] [] := F61.bindsN (fun _ _ _ _ _ _ us hl => match us, hl with | [_, _, _], _ => rfl)
  have c_last_of : Cal P w K ⟨ca K, zs⟩ mg base "last_of" 8 m_last_of [] [] := ⟨_, fd61, ["program", "inputs", "log"], [], ok_last_of Z F61 c_faults_at_last, He.glo_ok X G (c.fact 127 (f := .glo "last_of") rfl), F61.kp, b61, .nil, fun _ => .nil⟩
  obtain ⟨fd62, F62⟩ := c.def_ 62 (d := d_woven) rfl
  have b62 : Binds K fd62 ["program", "inputs", "log", "draws"] [] := F62.bindsN (fun _ _ _ _ _ _ us hl => match us, hl with | [_, _, _, _], _ => rfl)
  have c_woven : Cal P w K ⟨ca K, zs⟩ mg base "woven" 9 m_woven [] [] := ⟨_, fd62, ["program", "inputs", "log", "draws"], [], ok_woven Z F62 c_look_at_log c_is_whole c_Machine_init c_last_of c_Machine_may_go c_may_do c_Machine_step, He.glo_ok X G (c.fact 128 (f := .glo "woven") rfl), F62.kp, b62, .nil, fun _ => .nil⟩
  obtain ⟨fd63, F63⟩ := c.def_ 63 (d := d_default_thread) rfl
  have b63 : Binds K fd63 ["machine", "last"] [] := F63.bindsN (fun _ _ _ _ _ _ us hl => match us, hl with | [_, _], _ => rfl)
  have c_default_thread : Cal P w K ⟨ca K, zs⟩ mg base "default_thread" 4 m_default_thread [] [] := ⟨_, fd63, ["machine", "last"], [], ok_default_thread Z F63 c_Machine_may_go, He.glo_ok X G (c.fact 129 (f := .glo "default_thread") rfl), F63.kp, b63, .nil, fun _ => .nil⟩
  obtain ⟨fd64, F64⟩ := c.def_ 64 (d := d_by_default) rfl
  have b64 : Binds K fd64 ["program", "inputs", "most"] [] := F64.bindsN (fun _ _ _ _ _ _ us hl => match us, hl with | [_, _, _], _ => rfl)
  have c_by_default : Cal P w K ⟨ca K, zs⟩ mg base "by_default" 7 m_by_default [] [] := ⟨_, fd64, ["program", "inputs", "most"], [], ok_by_default Z F64 c_is_whole c_Machine_init c_default_thread c_Machine_step, He.glo_ok X G (c.fact 130 (f := .glo "by_default") rfl), F64.kp, b64, .nil, fun _ => .nil⟩
  exact ⟨Z, c_law_draws, c_law_draw, c_law_made, c_law_same, c_least_log, c_turned, c_turned_right, c_picture, c_run, c_woven, c_by_default⟩
def iLaw : Nat := 65
-- LAWFACT (c.fact 131 (f := .glo "law") rfl)
-- LOOSE _wall|__name__|BackError|BadProgram|BadRun|BadLog|WIDE|HALF|WORKS|CONDITIONS|is_whole|is_word|wrap|worked|divided|holds|SMALL|MOST_CELLS|MOST_LOCKS|MOST_PROCS|MOST_PARAMS|MOST_LOCALS|MOST_CODE|ALONE|Program|is_name|look_at_program|look_at_proc|is_instruction|is_place|needs|MOST_THREADS|MOST_FRAMES|BOUNDS|ZERO|EMPTY|DEEP|OWNER|THREAD|MANY|FEW|Machine|picture|MOST_STEPS|is_weaving|look_at_weaving|run|fits|default_thread|by_default|SHARED|touches_of|event_of|events|spawned_by|joined_by|is_fault|line_before|spawn_for|own_before|Touched|Follows|name_of|least_log|counts_of|is_event_name|is_log|look_at_log|names_in|woven|may_do|last_of|faults_at_last|turned|turned_right|_law_draws|_law_draw|_law_same|_law_made
-- LAWAT 87
end K47
end

noncomputable section
namespace K47
open PySem PySem.Spec PyProof.Rows L2 Sh
theorem facts {P : Program} {w : World} {K : PySem.W.Frag} {h : Heap} {mg : Str → Option Value} {f : Addr} (X : K.In h) (G : h.Ns mainGlobals mg) (hfa : mg ("law" : Str) = some (.ref f)) (c : He.SaysD fa fnL K) (ex : exB K = true) :
    ∃ fd : FuncData, (∀ (s : Shared) (v : Value), BindsTo s fd ⟨[v], []⟩ [("script", v)]) ∧ ∀ base : Heap, K.In base → base.Ns mainGlobals mg → FnOk P w K mg base CX0 14 f fd ["script"] (spLaw K) := by
  obtain ⟨fd, F⟩ := c.def_ iLaw (d := d_law) rfl
  have e := hfa.symm.trans (He.glo_ok X G (c.fact 131 (f := .glo "law") rfl))
  cases e
  have b := FunD.bindsA (ps := ["script"]) F fun _ _ _ _ _ _ us hl => match us, hl with | [_], _ => rfl
  exact ⟨fd, fun s v => b s [v] rfl, fun base _ _ => ok_law (fun zs => allL base X G c ex zs) F⟩
end K47
open PySem PySem.W PySem.Calls PyProof.Rows
theorem PySem.Challenge.cw_wentback_k47_whole_logs_of_locks_and_joi_holds : PySem.Challenge.rw_wentback_k47_whole_logs_of_locks_and_joi.Holds := by
  w_on; o_law
  refine HandSHeadRun.head_any (r := OpenLaw.row PySem.Challenge.rw_wentback_k47_whole_logs_of_locks_and_joi) (q := view (OpenLaw.row PySem.Challenge.rw_wentback_k47_whole_logs_of_locks_and_joi).prog [87]) (H := K47.hk) (ob := K47.ob) (M := 14000) (loose := K47.loose) (d := HandSHeadRun.topDef (OpenLaw.row PySem.Challenge.rw_wentback_k47_whole_logs_of_locks_and_joi).prog 87) (kwd := []) K47.ob_eq
    (by kernel_rfl) (fun s => by kernel_rfl) K47.run (by kernel_rfl) (by kernel_rfl) (by kernel_rfl) (by rfl) (by first | assumption | decide +kernel) (by decide +kernel) ⟨rfl, rfl, rfl, rfl, rfl, by decide +kernel⟩ ?hw ?hc
  case hw => w_witness2
  case hc =>
    refine L2.walk_ofE (l := PySem.Challenge.rw_wentback_k47_whole_logs_of_locks_and_joi) (n := 63) (k := 14) (x := "script") (CX := L2.CX0) rfl (by decide) (by kernel_rfl) ⟨rfl, by decide, by decide⟩ ?F (fun _ _ _ _ z => z)
    intro w mg fa h Y G hmg0
    obtain ⟨K, KX, c, ex⟩ := Y
    have hmg : mg ("law" : PySem.Str) = some (.ref fa) := by
      have e : (HandSHeadRun.topDef (OpenLaw.row PySem.Challenge.rw_wentback_k47_whole_logs_of_locks_and_joi).prog 87).name = ("law" : PySem.Str) := by kernel_rfl
      rw [← e]
      exact hmg0
    obtain ⟨fd, hb, hF⟩ := K47.facts (P := (PySem.Challenge.rw_wentback_k47_whole_logs_of_locks_and_joi).prog) (w := w) KX G hmg c ex
    exact ⟨K, fd, K47.spLaw K, KX, hb, fun H a ns hl hO hS => ⟨a, ns, rfl, hS, hO, fun _ => rfl⟩, hF⟩
end
