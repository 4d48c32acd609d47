/- The data of the messages, as values and as cells. No condition. -/
import Derived.Test.YtljegdokbifoiaaGreatDoorZzBt
namespace Go.Proofs.YtljegdokbifoiaaGreatDoor.Af
open Go.RowKit

structure Lk where
  t : Int
  r : ByteArray
structure Ins where
  ref : ByteArray
  kind : Int
  sender : ByteArray
  cpty : ByteArray
  side : Int
  asset : ByteArray
  qty : Int
  amt : Int
  tday : Int
  sday : Int
  prio : Int
  part : Bool
  minlot : Int
  hold : Bool
  resv : Bool
  links : List Lk
structure Am where
  hasAmt : Bool
  hasDay : Bool
  hasPrio : Bool
  hasPart : Bool
  amt : Int
  sday : Int
  prio : Int
  part : Bool
  minlot : Int
def lkc (l : List Lk) : List Value := l.flatMap fun x => [.int .i64 x.t, .string x.r]
def insV (i : Ins) (A : Option Addr) (c : Nat) : Value :=
  .agg #[.string i.ref, .int .i64 i.kind, .string i.sender, .string i.cpty, .int .i64 i.side, .string i.asset, .int .i64 i.qty, .int .i64 i.amt, .int .i64 i.tday, .int .i64 i.sday, .int .i64 i.prio, .bool i.part, .int .i64 i.minlot, .bool i.hold, .bool i.resv, .slice A i.links.length c]
def amV (m : Am) : Value := .agg #[.bool m.hasAmt, .bool m.hasDay, .bool m.hasPrio, .bool m.hasPart, .int .i64 m.amt, .int .i64 m.sday, .int .i64 m.prio, .bool m.part, .int .i64 m.minlot]
theorem lkc_length (l : List Lk) : (lkc l).length = 2 * l.length := by
  induction l with
  | nil => rfl
  | cons x l ih => simp only [lkc, List.flatMap_cons, List.length_append, List.length_cons, List.length_nil] at ih ⊢; omega
theorem lkc_get (l : List Lk) (k : Nat) (x : Lk) (h : l[k]? = some x) : (lkc l)[k * 2]? = some (.int .i64 x.t) ∧ (lkc l)[k * 2 + 1]? = some (.string x.r) := by
  induction l generalizing k with
  | nil => simp at h
  | cons y l ih =>
    cases k with
    | zero =>
      simp only [List.getElem?_cons_zero, Option.some.injEq] at h
      subst h
      exact ⟨rfl, rfl⟩
    | succ k =>
      rw [List.getElem?_cons_succ] at h
      have := ih k h
      rw [show (k + 1) * 2 = k * 2 + 2 by omega, show k * 2 + 2 + 1 = k * 2 + 1 + 2 by omega]
      exact this

/-! ### rules -/
def rulec (l : List (Bool × Int)) : List Value := l.flatMap fun x => [.bool x.1, .int .i64 x.2]
theorem rulec_get (l : List (Bool × Int)) (k : Nat) (x : Bool × Int) (h : l[k]? = some x) : ∀ j u, ([.bool x.1, .int .i64 x.2] : List Value)[j]? = some u → (rulec l)[k * 2 + j]? = some u := by
  induction l generalizing k with
  | nil => simp at h
  | cons y l ih =>
    intro j u hj
    cases k with
    | zero =>
      simp only [List.getElem?_cons_zero, Option.some.injEq] at h
      subst h
      rw [Nat.zero_mul, Nat.zero_add]
      match j, hj with
      | 0, hj => exact hj
      | 1, hj => exact hj
    | succ k =>
      rw [List.getElem?_cons_succ] at h
      have := ih k h j u hj
      rw [show (k + 1) * 2 + j = k * 2 + j + 2 by omega]
      exact this
/-- The first broken rule's place, or -1; its error, or 0. -/
def idxR : List (Bool × Int) → Nat → Int
  | [], _ => -1
  | (b, _) :: r, k => bif b then (k : Int) else idxR r (k + 1)
def firstE : List (Bool × Int) → Int
  | [] => 0
  | (b, e) :: r => bif b then e else firstE r
theorem idxR_none (l : List (Bool × Int)) (s : Nat) (h : ∀ (j : Nat) (x : Bool × Int), l[j]? = some x → x.1 = false) : idxR l s = -1 := by
  induction l generalizing s with
  | nil => rfl
  | cons y l ih =>
    obtain ⟨b, e⟩ := y
    have h0 : b = false := h 0 (b, e) rfl
    simp only [idxR, h0, cond_false]
    exact ih (s + 1) fun j x hj => h (j + 1) x (by rw [List.getElem?_cons_succ]; exact hj)
theorem idxR_some (l : List (Bool × Int)) (s k : Nat) (x : Bool × Int) (h : ∀ (j : Nat) (y : Bool × Int), j < k → l[j]? = some y → y.1 = false) (hk : l[k]? = some x) (hx : x.1 = true) : idxR l s = ((s + k : Nat) : Int) := by
  induction l generalizing s k with
  | nil => simp at hk
  | cons y l ih =>
    obtain ⟨b, e⟩ := y
    cases k with
    | zero =>
      simp only [List.getElem?_cons_zero, Option.some.injEq] at hk
      subst hk
      simp only at hx
      simp [idxR, hx]
    | succ k =>
      have h0 : b = false := h 0 (b, e) (by omega) rfl
      simp only [idxR, h0, cond_false]
      rw [ih (s + 1) k (fun j y hj hy => h (j + 1) y (by omega) (by rw [List.getElem?_cons_succ]; exact hy)) (by rwa [List.getElem?_cons_succ] at hk)]
      congr 1
      omega
theorem firstE_of_idx (l : List (Bool × Int)) : (idxR l 0 = -1 ∧ firstE l = 0) ∨ ∃ (k : Nat) (x : Bool × Int), k < l.length ∧ idxR l 0 = ((k : Nat) : Int) ∧ l[k]? = some x ∧ firstE l = x.2 := by
  have key : ∀ (l : List (Bool × Int)) (s : Nat), (idxR l s = -1 ∧ firstE l = 0) ∨ ∃ (k : Nat) (x : Bool × Int), k < l.length ∧ idxR l s = ((s + k : Nat) : Int) ∧ l[k]? = some x ∧ firstE l = x.2 := by
    intro l
    induction l with
    | nil => intro s; exact .inl ⟨rfl, rfl⟩
    | cons y l ih =>
      intro s
      obtain ⟨b, e⟩ := y
      cases b with
      | true => exact .inr ⟨0, (true, e), by simp, by simp [idxR], rfl, rfl⟩
      | false =>
        rcases ih (s + 1) with ⟨h1, h2⟩ | ⟨k, x, h0, h1, h2, h3⟩
        · exact .inl ⟨by simpa [idxR] using h1, by simpa [firstE] using h2⟩
        · refine .inr ⟨k + 1, x, by simp; omega, ?_, by rw [List.getElem?_cons_succ]; exact h2, by simpa [firstE] using h3⟩
          simp only [idxR, cond_false, h1]
          congr 1
          omega
  have := key l 0
  simpa using this
theorem not_lt_elim {a b : Nat} (h : ¬ ((a : Int) < (b : Int))) : b ≤ a := by omega
end Go.Proofs.YtljegdokbifoiaaGreatDoor.Af
