/- Checks of messages in plain Lean: links. No condition. -/
import Derived.Test.YtljegdokbifoiaaGreatDoorZzIc
import Derived.Test.YtljegdokbifoiaaGreatDoorZzSm
namespace Go.Proofs.YtljegdokbifoiaaGreatDoor.Af
open Go.RowKit

theorem El.of_blk {w : World} {b : Nat} {cs : Array Value} {T : TypeId} {fr : Nat × Nat} (h : w.heap[b]? = some (.cells cs T fr)) : El w ⟨b, 0, none⟩ cs.toList := by
  refine ⟨blk_size h, fun j u hj => ?_⟩
  have hadd : (⟨b, 0, none⟩ : Addr).add j = ⟨b, j, none⟩ := by unfold Addr.add; split <;> simp_all
  rw [hadd, cell_of_row w b j cs T fr h]
  simpa using hj
theorem lkc_take (l : List Lk) (k : Nat) : lkc (l.take k) = (lkc l).take (k * 2) := by
  induction l generalizing k with
  | nil => simp [lkc]
  | cons x l ih =>
    cases k with
    | zero => simp [lkc]
    | succ k =>
      have := ih k
      simp only [lkc, List.take_succ_cons, List.flatMap_cons] at this ⊢
      rw [this, show (k + 1) * 2 = k * 2 + 1 + 1 by omega]
      simp
theorem Rd.take {w : World} {A : Option Addr} {cs : List Value} (h : Rd w A cs) (n : Nat) : Rd w A (cs.take n) := fun j u hj => by
  rw [List.getElem?_take] at hj
  split at hj
  · exact h j u hj
  · cases hj
theorem lkc_el (l : List Lk) (k : Nat) (x : Lk) (h : l[k]? = some x) : ∀ j u, ([.int .i64 x.t, .string x.r] : List Value)[j]? = some u → (lkc l)[k * 2 + j]? = some u := by
  intro j u hj
  have h2 := lkc_get l k x h
  match j, hj with
  | 0, hj => rw [Nat.add_zero, h2.1]; exact hj
  | 1, hj => rw [h2.2]; exact hj
def dupB (ls : List Lk) (r : ByteArray) : Bool := ls.any fun y => y.r.toList == r.toList
theorem dup_yes {ls : List Lk} {r : ByteArray} {k : Nat} {x : Lk} (hx : ls[k]? = some x) (h : (x.r.toList == r.toList) = true) : decide ((0 : Int) ≤ ((k : Nat) : Int)) = dupB ls r := by
  rw [decide_eq_true (by omega)]
  unfold dupB
  exact (List.any_eq_true.2 ⟨x, List.mem_of_getElem? hx, h⟩).symm
theorem dup_no {ls : List Lk} {r : ByteArray} {k : Nat} (h : ∀ (j : Nat) (y : Lk), j < k → ls[j]? = some y → (y.r.toList == r.toList) = false) (hk : ls.length ≤ k) : decide ((0 : Int) ≤ (-1)) = dupB ls r := by
  unfold dupB
  symm
  rw [show decide ((0 : Int) ≤ (-1)) = false from rfl, List.any_eq_false]
  intro y hy hh
  obtain ⟨j, hj⟩ := List.getElem?_of_mem hy
  have := h j y (by have := (List.getElem?_eq_some_iff.1 hj).1; omega) hj
  rw [this] at hh
  cases hh
def assetB (i : Ins) : Bool := bif i.kind == 0 then i.asset.toList == (⟨#[67, 65, 83, 72]⟩ : ByteArray).toList else isinB i.asset
def rulesL (i : Ins) (k : Nat) (x : Lk) : List (Bool × Int) := [(!winB x.t 0 1, 11), (!rfB x.r, 6), (x.r.toList == i.ref.toList, 26), (dupB (i.links.take k) x.r, 7)]
def chkL (i : Ins) : Nat → List Lk → Int
  | _, [] => 0
  | k, x :: r => bif firstE (rulesL i k x) != 0 then firstE (rulesL i k x) else chkL i (k + 1) r
theorem chkL_at (i : Ins) (k : Nat) (x : Lk) (h : i.links[k]? = some x) : chkL i k (i.links.drop k) = bif firstE (rulesL i k x) != 0 then firstE (rulesL i k x) else chkL i (k + 1) (i.links.drop (k + 1)) := by
  have hlt := (List.getElem?_eq_some_iff.1 h).1
  have he := (List.getElem?_eq_some_iff.1 h).2
  rw [List.drop_eq_getElem_cons hlt, he]
  rfl
theorem chkL_end (i : Ins) (k : Nat) (h : i.links.length ≤ k) : chkL i k (i.links.drop k) = 0 := by
  rw [List.drop_of_length_le h]
  rfl
end Go.Proofs.YtljegdokbifoiaaGreatDoor.Af
