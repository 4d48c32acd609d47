/- The plain law of MessageSides: the mirror image of an instruction. No condition. -/
import Derived.Test.YtljegdokbifoiaaDoorLa
namespace Go.Proofs.YtljegdokbifoiaaDoor.Af
open Go.RowKit

def mir (i : Ins) : Ins := ⟨i.ref, i.kind, i.cpty, i.sender, IntKind.i64.wrap (1 - i.side), i.asset, i.qty, i.amt, i.tday, i.sday, i.prio, i.part, i.minlot, i.hold, i.resv, i.links⟩
theorem top_zero (l : List (Bool × Int)) (z : Int) (h : ∀ p ∈ l, p.2 ≠ 0) : refTop l z = 0 ↔ (∀ p ∈ l, p.1 = false) ∧ z = 0 := by
  induction l with
  | nil => simp [refTop]
  | cons p l ih =>
    obtain ⟨b, e⟩ := p
    have he : e ≠ 0 := h (b, e) (by simp)
    have ih' := ih fun p hp => h p (by simp [hp])
    cases b with
    | true => simp [refTop, he]
    | false => simp only [refTop, cond_false, ih']; simp
theorem refL_mir (i : Ins) (k : Nat) (l : List Lk) : refL (mir i) k l = refL i k l := by
  induction l generalizing k with
  | nil => rfl
  | cons x l ih => simp only [refL, ih]; rfl
theorem eq_swap (a b : ByteArray) : (a.toList == b.toList) = (b.toList == a.toList) := by
  rw [Bool.eq_iff_iff]
  simp only [beq_iff_eq]
  exact ⟨Eq.symm, Eq.symm⟩
theorem mir_ref (i : Ins) (h : ((refI i != 0) || ((i.kind != 1) && (i.kind != 2))) = false) : refI (mir i) = 0 ∧ (i.side = 0 ∨ i.side = 1) := by
  rw [Bool.or_eq_false_iff] at h
  obtain ⟨h1, h2⟩ := h
  have h1 : refI i = 0 := by simpa using h1
  have hk : i.kind = 1 ∨ i.kind = 2 := by
    rw [Bool.and_eq_false_iff] at h2
    simpa using h2
  unfold refI at h1 ⊢
  rw [top_zero _ _ (by unfold rules15; simp)] at h1
  obtain ⟨h3, h4⟩ := h1
  rw [top_zero _ _ (by unfold rules15; simp)]
  unfold rules15 at h3
  simp only [List.forall_mem_cons] at h3
  obtain ⟨e1, e2, e3, e4, e5, e6, e7, e8, e9, e10, e11, e12, e13, e14, e15, e16, -⟩ := h3
  have hb : decide (i.kind < 3) = true := decide_eq_true (by omega)
  have hs : i.side = 0 ∨ i.side = 1 := by
    rw [Bool.and_eq_false_iff] at e6
    simpa using e6
  refine ⟨⟨?_, by rw [refL_mir]; exact h4⟩, hs⟩
  unfold rules15
  simp only [List.forall_mem_cons]
  rw [hb] at e4 e5
  rw [Bool.or_eq_false_iff] at e2
  have m1 : memB i.sender = true := by simpa using e2.2
  have m2 : memB i.cpty = true := by simpa using e4
  have m3 : rfB i.ref = true := by simpa using e2.1
  refine ⟨e1, ?_, ?_, ?_, ?_, ?_, ?_, e8, e9, e10, e11, e12, e13, e14, e15, e16, fun _ h => by cases h⟩
  · show ((!rfB i.ref) || (!memB i.cpty)) = false
    rw [m3, m2]; rfl
  · show ((!decide (i.kind < 3)) && _) = false
    rw [hb]; rfl
  · show (decide (i.kind < 3) && !memB i.sender) = false
    rw [hb, m1]; rfl
  · show (decide (i.kind < 3) && (i.sender.toList == i.cpty.toList)) = false
    rw [hb, eq_swap]
    exact e5
  · show ((IntKind.i64.wrap (1 - i.side) != 0) && (IntKind.i64.wrap (1 - i.side) != 1)) = false
    rcases hs with h | h <;> rw [h] <;> rfl
  · show ((!((i.kind == 1) || (i.kind == 2))) && _) = false
    rw [show ((i.kind == 1) || (i.kind == 2)) = true by simpa using hk]
    rfl
theorem mir_ok (i : Ins) (h : ((refI i != 0) || ((i.kind != 1) && (i.kind != 2))) = false) : (chkI (mir i) == 0) = true := by
  rw [chk_ref, (mir_ref i h).1]
  rfl
theorem mir_del (i : Ins) (h : ((refI i != 0) || ((i.kind != 1) && (i.kind != 2))) = false) : ((delB (mir i)).toList == (delB i).toList) = true := by
  have : delB (mir i) = delB i := by
    show (bif IntKind.i64.wrap (1 - i.side) == 0 then i.cpty else i.sender) = (bif i.side == 0 then i.sender else i.cpty)
    rcases (mir_ref i h).2 with h | h <;> rw [h] <;> rfl
  rw [this]
  exact beq_self_eq_true _
theorem mir_rec (i : Ins) (h : ((refI i != 0) || ((i.kind != 1) && (i.kind != 2))) = false) : ((recB (mir i)).toList == (recB i).toList) = true := by
  have : recB (mir i) = recB i := by
    show (bif IntKind.i64.wrap (1 - i.side) == 0 then i.sender else i.cpty) = (bif i.side == 0 then i.cpty else i.sender)
    rcases (mir_ref i h).2 with h | h <;> rw [h] <;> rfl
  rw [this]
  exact beq_self_eq_true _
theorem ne_self (a : ByteArray) : (a.toList != a.toList) = false := by
  unfold bne
  rw [show (a.toList == a.toList) = true from beq_self_eq_true _]
  rfl
theorem sdT (i : Ins) (h : (i.side != 0) = true) : ((delB i).toList != i.cpty.toList) = false := by
  have : delB i = i.cpty := by unfold delB; rw [show (i.side == 0) = false by simpa using h]; rfl
  rw [this, ne_self]
theorem sdF (i : Ins) (h : (i.side != 0) = false) : ((delB i).toList != i.sender.toList) = false := by
  have : delB i = i.sender := by unfold delB; rw [show (i.side == 0) = true by simpa using h]; rfl
  rw [this, ne_self]
theorem srT (i : Ins) (h : (i.side != 0) = true) : ((recB i).toList != i.sender.toList) = false := by
  have : recB i = i.sender := by unfold recB; rw [show (i.side == 0) = false by simpa using h]; rfl
  rw [this, ne_self]
theorem srF (i : Ins) (h : (i.side != 0) = false) : ((recB i).toList != i.cpty.toList) = false := by
  have : recB i = i.cpty := by unfold recB; rw [show (i.side == 0) = true by simpa using h]; rfl
  rw [this, ne_self]
theorem sec_same (i : Ins) : (isSec i != ((i.kind == 1) || (i.kind == 2))) = false := by
  show (isSec i != isSec i) = false
  cases isSec i <;> rfl
end Go.Proofs.YtljegdokbifoiaaDoor.Af
