/- The plain law: the instruction's check answers as the reference's. No condition. -/
import Derived.Test.YtljegdokbifoiaaGreatDoorZzCk
import Derived.Test.YtljegdokbifoiaaGreatDoorZzRk
namespace Go.Proofs.YtljegdokbifoiaaGreatDoor.Af
open Go.RowKit

theorem top_step {a a' : Bool} {e : Int} {r r' : List (Bool × Int)} {z : Int} (ha : a = a') (h : a = false → refTop r z = refTop r' z) : refTop ((a, e) :: r) z = refTop ((a', e) :: r') z := by
  subst ha
  cases a with
  | true => rfl
  | false => exact h rfl
theorem top_zero (l : List (Bool × Int)) (z : Int) (h : ∀ p ∈ l, p.2 ≠ 0) : refTop l z = 0 ↔ (∀ p ∈ l, p.1 = false) ∧ z = 0 := by
  induction l with
  | nil => simp [refTop]
  | cons p l ih =>
    obtain ⟨b, e⟩ := p
    have he : e ≠ 0 := h (b, e) (by simp)
    have ih' := ih fun p hp => h p (by simp [hp])
    cases b with
    | true => simp [refTop, he]
    | false => simp only [refTop, cond_false, ih']; simp
theorem top_or (a b : Bool) (e : Int) (r : List (Bool × Int)) (z : Int) : refTop ((a || b, e) :: r) z = refTop ((a, e) :: (b, e) :: r) z := by
  cases a <;> rfl
theorem toList_nil_of {a b : ByteArray} (h : (a.toList != (⟨#[]⟩ : ByteArray).toList) = false) (hb : memB b = true) : (a.toList == b.toList) = false := by
  have h1 : a.toList = [] := by
    have h2 : a.toList = (⟨#[]⟩ : ByteArray).toList := by simpa using h
    rw [h2, ByteArray.toList_eq]
  rw [h1]
  cases h3 : b.toList with
  | cons x l => rfl
  | nil =>
    exfalso
    rw [ByteArray.toList_eq] at h3
    have hs : b.size = 0 := by
      have e : b.data.toList.length = b.size := Array.length_toList
      rw [h3] at e
      exact e.symm
    unfold memB pfxE at hb
    rw [hs] at hb
    generalize pfxOK (clsOf sp1) b.data.toList = q at hb
    cases q with
    | true => exact absurd hb (by decide)
    | false => exact absurd hb (by decide)
theorem rules_same (i : Ins) (z : Int) : refTop (rules14 i) z = refTop (rules15 i) z := by
  unfold rules14 rules15
  have B := @Bool.eq_iff_iff
  refine top_step (by unfold winB; rw [B]; simp <;> omega) fun h1 => ?_
  have hk : 0 ≤ i.kind ∧ i.kind ≤ 4 := by unfold winB at h1; simpa using h1
  have hcol : isCol i = !(decide (i.kind < 3)) := by unfold isCol; rw [B]; simp <;> omega
  have hsec : isSec i = ((i.kind == 1) || (i.kind == 2)) := rfl
  rw [hcol, hsec, Bool.not_not]
  rw [top_or (!rfB i.ref)]
  refine top_step rfl fun _ => top_step rfl fun hm => top_step rfl fun hc => top_step rfl fun _ => top_step ?_ fun _ => ?_
  · cases hb : decide (i.kind < 3) with
    | true => rw [Bool.true_and]
    | false =>
      rw [hb, Bool.not_false, Bool.true_and] at hc
      rw [Bool.false_and]
      exact toList_nil_of hc (by simpa using hm)
  refine top_step (by unfold winB; rw [B]; simp <;> omega) fun _ => top_step rfl fun _ => top_step ?_ fun _ => top_step ?_ fun _ => top_step ?_ fun _ => ?_
  · unfold assetB
    cases hz : (i.kind == 0) with
    | true =>
      have hz' : i.kind = 0 := by simpa using hz
      rw [hz']
      simp [bne]
    | false =>
      have hz' : ¬ i.kind = 0 := by simpa using hz
      rw [show decide (0 < i.kind) = true from decide_eq_true (by omega)]
      simp
  · unfold bndB winB
    cases hz : (i.kind == 0) with
    | true =>
      have hz' : i.kind = 0 := by simpa using hz
      rw [hz']
      simp [bne]
    | false =>
      have hz' : ¬ i.kind = 0 := by simpa using hz
      rw [show decide (0 < i.kind) = true from decide_eq_true (by omega), show (i.kind != 0) = true by simpa using hz']
      rw [B]
      simp <;> omega
  · unfold bndB winB
    cases hz : ((i.kind == 0) || (i.kind == 1)) with
    | true =>
      have hz' : i.kind = 0 ∨ i.kind = 1 := by simpa using hz
      rw [show decide (i.kind < 2) = true from decide_eq_true (by omega), show decide (2 ≤ i.kind) = false from decide_eq_false (by omega)]
      rw [B]
      simp <;> omega
    | false =>
      have hz' : ¬ (i.kind = 0 ∨ i.kind = 1) := by simpa using hz
      rw [show decide (i.kind < 2) = false from decide_eq_false (by omega), show decide (2 ≤ i.kind) = true from decide_eq_true (by omega)]
      simp [bne]
  rw [Bool.or_assoc, top_or (!dayB i.sday)]
  refine top_step rfl fun _ => top_step ?_ fun _ => top_step ?_ fun _ => top_step rfl fun _ => top_step ?_ fun _ => ?_
  · congr 2
    unfold winB
    rw [B]
    simp <;> omega
  · congr 1
    unfold winB
    rw [B]
    simp <;> omega
  · unfold winB maxLotI
    cases i.part with
    | true => rw [B]; simp <;> omega
    | false => rw [B]; simp <;> omega
  rw [Bool.or_assoc, top_or (i.hold && _)]
  refine top_step rfl fun _ => ?_
  rw [top_or (i.resv && _)]
theorem links_same (i : Ins) (k : Nat) (l : List Lk) : chkL i k l = refL i k l := by
  induction l generalizing k with
  | nil => rfl
  | cons x l ih =>
    simp only [chkL, refL]
    rw [ih (k + 1), firstE_top (rulesL i k x) _ (by unfold rulesL; simp)]
    unfold rulesL rulesR
    refine top_step ?_ fun _ => rfl
    unfold winB
    rw [@Bool.eq_iff_iff]
    simp <;> omega
/-- The instruction's check is the reference's. -/
theorem chk_ref (i : Ins) : chkI i = refI i := by
  unfold chkI refI
  rw [firstE_top (rules14 i) _ (by unfold rules14; simp), rules_same, links_same]
end Go.Proofs.YtljegdokbifoiaaGreatDoor.Af
