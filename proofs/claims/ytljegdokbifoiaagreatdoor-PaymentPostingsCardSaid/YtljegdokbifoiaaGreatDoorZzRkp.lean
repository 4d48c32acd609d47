/- The reference's check of instructions in plain Lean: chains of rules. No condition. -/
import Derived.Test.YtljegdokbifoiaaGreatDoorZzRi
import Derived.Test.YtljegdokbifoiaaGreatDoorZzCk
namespace Go.Proofs.YtljegdokbifoiaaGreatDoor.Af
open Go.RowKit

def refTop : List (Bool × Int) → Int → Int
  | [], z => z
  | (b, e) :: r, z => bif b then e else refTop r z
def rulesR (i : Ins) (k : Nat) (x : Lk) : List (Bool × Int) := [((x.t != 0) && (x.t != 1), 11), (!rfB x.r, 6), (x.r.toList == i.ref.toList, 26), (dupB (i.links.take k) x.r, 7)]
def refL (i : Ins) : Nat → List Lk → Int
  | _, [] => 0
  | k, x :: r => refTop (rulesR i k x) (refL i (k + 1) r)
theorem refL_at (i : Ins) (k : Nat) (x : Lk) (h : i.links[k]? = some x) : refL i k (i.links.drop k) = refTop (rulesR i k x) (refL i (k + 1) (i.links.drop (k + 1))) := by
  have hlt := (List.getElem?_eq_some_iff.1 h).1
  have he := (List.getElem?_eq_some_iff.1 h).2
  rw [List.drop_eq_getElem_cons hlt, he]
  rfl
theorem refL_end (i : Ins) (k : Nat) (h : i.links.length ≤ k) : refL i k (i.links.drop k) = 0 := by
  rw [List.drop_of_length_le h]
  rfl
theorem dup_hit {ls : List Lk} {r : ByteArray} {j k : Nat} {y : Lk} (hy : ls[j]? = some y) (hj : j < k) (h : (y.r.toList == r.toList) = true) : dupB (ls.take k) r = true := by
  unfold dupB
  exact List.any_eq_true.2 ⟨y, List.mem_of_getElem? (i := j) (by rw [List.getElem?_take, if_pos hj]; exact hy), h⟩
theorem dup_miss {ls : List Lk} {r : ByteArray} {j k : Nat} (h : ∀ (q : Nat) (y : Lk), q < j → ls[q]? = some y → (y.r.toList == r.toList) = false) (hj : k ≤ j) : dupB (ls.take k) r = false := by
  unfold dupB
  rw [List.any_eq_false]
  intro y hy hh
  obtain ⟨q, hq⟩ := List.getElem?_of_mem hy
  rw [List.getElem?_take] at hq
  split at hq
  · rename_i hqk
    have := h q y (by omega) hq
    rw [this] at hh
    cases hh
  · cases hq
/-- The first broken rule, and what follows where no rule is broken. -/
theorem firstE_top (l : List (Bool × Int)) (z : Int) (h : ∀ p ∈ l, p.2 ≠ 0) : (bif firstE l != 0 then firstE l else z) = refTop l z := by
  induction l with
  | nil => rfl
  | cons p l ih =>
    obtain ⟨b, e⟩ := p
    cases b with
    | true =>
      have : e ≠ 0 := h (true, e) (by simp)
      show (bif e != 0 then e else z) = e
      have h2 : (e != 0) = true := by simpa using this
      rw [h2]
      rfl
    | false =>
      simp only [firstE, refTop, cond_false]
      exact ih fun p hp => h p (by simp [hp])
end Go.Proofs.YtljegdokbifoiaaGreatDoor.Af
