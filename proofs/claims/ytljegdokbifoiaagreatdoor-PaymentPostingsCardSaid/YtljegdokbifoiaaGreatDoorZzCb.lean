/- Strings by their bytes: an order. No condition. -/
import Derived.Test.YtljegdokbifoiaaGreatDoorZzBt
import Derived.Lib.Bytealg
import Derived.Sort.Statements
namespace Go.Proofs.YtljegdokbifoiaaGreatDoor.Af
open Go.RowKit

/-! ### the order of byte strings -/
theorem cb_swap (a b : List UInt8) : Lib.compareBytes b a = - Lib.compareBytes a b := by
  induction a generalizing b with
  | nil => cases b <;> rfl
  | cons x a ih =>
    cases b with
    | nil => rfl
    | cons y b =>
      simp only [Lib.compareBytes]
      by_cases h1 : x < y
      · have h2 : ¬ y < x := fun h => by rw [UInt8.lt_iff_toNat_lt] at h h1; omega
        simp [h1, h2]
      · by_cases h2 : y < x
        · simp [h1, h2]
        · simp only [h1, h2, if_false]; exact ih b
theorem cb_self (a : List UInt8) : Lib.compareBytes a a = 0 := by
  have := cb_swap a a
  omega
theorem cb_eq (a b : List UInt8) (h : Lib.compareBytes a b = 0) : a = b := by
  induction a generalizing b with
  | nil => cases b with
    | nil => rfl
    | cons y b => simp [Lib.compareBytes] at h
  | cons x a ih =>
    cases b with
    | nil => simp [Lib.compareBytes] at h
    | cons y b =>
      simp only [Lib.compareBytes] at h
      by_cases h1 : x < y
      · simp [h1] at h
      · by_cases h2 : y < x
        · simp [h1, h2] at h
        · simp only [h1, h2, if_false] at h
          have : x = y := by
            rw [UInt8.lt_iff_toNat_lt] at h1 h2
            exact UInt8.toNat_inj.1 (by omega)
          rw [this, ih b h]
theorem cb_trans (a b c : List UInt8) (h1 : Lib.compareBytes a b < 0) (h2 : Lib.compareBytes b c < 0) : Lib.compareBytes a c < 0 := by
  induction a generalizing b c with
  | nil => cases b with
    | nil => simp [Lib.compareBytes] at h1
    | cons y b => cases c with
      | nil => simp [Lib.compareBytes] at h2
      | cons z c => simp [Lib.compareBytes]
  | cons x a ih => cases b with
    | nil => simp [Lib.compareBytes] at h1
    | cons y b => cases c with
      | nil => simp [Lib.compareBytes] at h2
      | cons z c =>
        simp only [Lib.compareBytes, UInt8.lt_iff_toNat_lt] at h1 h2 ⊢
        by_cases e1 : x.toNat < y.toNat
        · by_cases e2 : y.toNat < z.toNat
          · rw [if_pos (by omega)]; decide
          · by_cases e3 : z.toNat < y.toNat
            · simp [e2, e3] at h2
            · rw [if_pos (by omega)]; decide
        · by_cases e2 : y.toNat < x.toNat
          · simp [e1, e2] at h1
          · simp only [e1, e2, if_false] at h1
            by_cases e3 : y.toNat < z.toNat
            · rw [if_pos (by omega)]; decide
            · by_cases e4 : z.toNat < y.toNat
              · simp [e3, e4] at h2
              · simp only [e3, e4, if_false] at h2
                rw [if_neg (by omega), if_neg (by omega)]
                exact ih b c h1 h2
def ltB (a b : ByteArray) : Bool := decide (Lib.compareBytes a.data.toList b.data.toList < 0)
theorem lt_self (a : ByteArray) : ltB a a = false := by unfold ltB; rw [cb_self]; rfl
theorem lt_asym {a b : ByteArray} (h : ltB a b = true) : ltB b a = false := by
  unfold ltB at h ⊢
  rw [decide_eq_true_eq] at h
  rw [cb_swap, decide_eq_false_iff_not]
  omega
theorem lt_trans' {a b c : ByteArray} (h1 : ltB a b = true) (h2 : ltB b c = true) : ltB a c = true := by
  unfold ltB at h1 h2 ⊢
  rw [decide_eq_true_eq] at h1 h2 ⊢
  exact cb_trans _ _ _ h1 h2
theorem lt_total {a b : ByteArray} (h1 : ltB a b = false) (h2 : ltB b a = false) : a.data.toList = b.data.toList := by
  unfold ltB at h1 h2
  rw [decide_eq_false_iff_not] at h1 h2
  rw [cb_swap] at h2
  exact cb_eq _ _ (by omega)
/-- A step of the comparison. -/
theorem cb_drop {la lb : List UInt8} {k : Nat} {x y : UInt8} (hx : la[k]? = some x) (hy : lb[k]? = some y) : Lib.compareBytes (la.drop k) (lb.drop k) = if x < y then -1 else if y < x then 1 else Lib.compareBytes (la.drop (k + 1)) (lb.drop (k + 1)) := by
  have h1 := (List.getElem?_eq_some_iff.1 hx)
  have h2 := (List.getElem?_eq_some_iff.1 hy)
  obtain ⟨a1, a2⟩ := h1
  obtain ⟨b1, b2⟩ := h2
  rw [List.drop_eq_getElem_cons a1, List.drop_eq_getElem_cons b1, a2, b2]
  rfl
theorem lt_hit {a b : ByteArray} {k : Nat} {x y : UInt8} (hinv : Lib.compareBytes a.data.toList b.data.toList = Lib.compareBytes (a.data.toList.drop k) (b.data.toList.drop k)) (hx : a.data.toList[k]? = some x) (hy : b.data.toList[k]? = some y)
    (hne : (((x.toNat : Nat) : Int) != ((y.toNat : Nat) : Int)) = true) : decide (((x.toNat : Nat) : Int) < ((y.toNat : Nat) : Int)) = ltB a b := by
  have hne' : x.toNat ≠ y.toNat := by have := hne; simp at this; omega
  unfold ltB
  rw [hinv, cb_drop hx hy]
  simp only [UInt8.lt_iff_toNat_lt]
  by_cases h1 : x.toNat < y.toNat
  · rw [if_pos h1, decide_eq_true (by omega)]; rfl
  · rw [if_neg h1, if_pos (by omega), decide_eq_false (by omega)]; rfl
theorem lt_next {a b : ByteArray} {k : Nat} {x y : UInt8} (hinv : Lib.compareBytes a.data.toList b.data.toList = Lib.compareBytes (a.data.toList.drop k) (b.data.toList.drop k)) (hx : a.data.toList[k]? = some x) (hy : b.data.toList[k]? = some y)
    (hne : (((x.toNat : Nat) : Int) != ((y.toNat : Nat) : Int)) = false) : Lib.compareBytes a.data.toList b.data.toList = Lib.compareBytes (a.data.toList.drop (k + 1)) (b.data.toList.drop (k + 1)) := by
  have hne' : x.toNat = y.toNat := by have := hne; simp at this; omega
  rw [hinv, cb_drop hx hy]
  simp only [UInt8.lt_iff_toNat_lt]
  rw [if_neg (by omega), if_neg (by omega)]
theorem lt_end {a b : ByteArray} {k : Nat} (hinv : Lib.compareBytes a.data.toList b.data.toList = Lib.compareBytes (a.data.toList.drop k) (b.data.toList.drop k)) (hka : k ≤ a.size) (hkb : k ≤ b.size) (h : ¬ (k < a.size ∧ k < b.size)) : decide (((a.size : Nat) : Int) < ((b.size : Nat) : Int)) = ltB a b := by
  have ea : a.data.toList.length = a.size := Array.length_toList
  have eb : b.data.toList.length = b.size := Array.length_toList
  unfold ltB
  rw [hinv]
  by_cases h1 : k < a.size
  · have h2 : b.data.toList.drop k = [] := List.drop_of_length_le (by omega)
    rw [h2, List.drop_eq_getElem_cons (by omega : k < a.data.toList.length), decide_eq_false (by omega)]; rfl
  · have h2 : a.data.toList.drop k = [] := List.drop_of_length_le (by omega)
    rw [h2]
    by_cases h3 : k < b.size
    · rw [List.drop_eq_getElem_cons (by omega : k < b.data.toList.length), decide_eq_true (by omega)]; rfl
    · have h4 : b.data.toList.drop k = [] := List.drop_of_length_le (by omega)
      rw [h4, decide_eq_false (by omega)]; rfl

end Go.Proofs.YtljegdokbifoiaaGreatDoor.Af
