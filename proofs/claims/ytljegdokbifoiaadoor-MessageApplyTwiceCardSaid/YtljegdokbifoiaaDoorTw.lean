/- The plain law of amending twice and of amending back. No condition. -/
import Derived.Test.YtljegdokbifoiaaDoorApp
namespace Go.Proofs.YtljegdokbifoiaaDoor.Af
open Go.RowKit

theorem ref_facts (i : Ins) (h : refI i = 0) : (0 ≤ i.kind ∧ i.kind ≤ 4) ∧ (0 < i.kind → 1 ≤ i.qty ∧ i.qty ≤ 1000000000000000) ∧ (i.kind < 2 → 1 ≤ i.amt ∧ i.amt ≤ 1000000000000000) ∧ (0 ≤ i.sday ∧ i.sday ≤ 73048) ∧ (0 ≤ i.prio ∧ i.prio ≤ 2) ∧
    (i.part = true → (i.kind = 1 ∨ i.kind = 2) ∧ 1 ≤ i.minlot ∧ i.minlot ≤ i.qty) ∧ (i.part = false → i.minlot = 0) := by
  unfold refI at h
  rw [top_zero _ _ (by unfold rules15; simp)] at h
  obtain ⟨h3, -⟩ := h
  unfold rules15 at h3
  simp only [List.forall_mem_cons] at h3
  obtain ⟨e1, -, -, -, -, -, -, -, e9, e10, e11, e12, e13, e14, -, -, -⟩ := h3
  simp only [dayB, Bool.or_eq_false_iff, Bool.and_eq_false_iff, Bool.not_eq_false', Bool.and_eq_true, decide_eq_true_eq, decide_eq_false_iff_not, beq_eq_false_iff_ne, bne_eq_false_iff_eq, Bool.or_eq_true, beq_iff_eq] at e1 e9 e10 e11 e12 e13 e14
  refine ⟨by omega, fun hk => by omega, fun hk => by omega, by omega, by omega, fun hp => ?_, fun hp => ?_⟩
  · rw [hp] at e13 e14
    simp at e13 e14
    omega
  · rw [hp] at e14
    simpa using e14
def bck (i : Ins) (m : Am) : Am := ⟨m.hasAmt, m.hasDay, m.hasPrio, m.hasPart, bif m.hasAmt then i.amt else 0, bif m.hasDay then i.sday else 0, bif m.hasPrio then i.prio else 0, bif m.hasPart then i.part else false, bif m.hasPart then i.minlot else 0⟩
theorem app_ok (i : Ins) (m : Am) (h : ((appP i m).2 != 0) = false) : chkI i = 0 ∧ chkA m = 0 ∧ badQ i m = false ∧ chkI (amd i m) = 0 := by
  have key : ∀ (a b d : Int) (c : Bool) (x : Ins), ((bif a != 0 then (zIns, a) else bif b != 0 then (zIns, b) else bif c then (zIns, 3) else bif d != 0 then (zIns, d) else (x, (0 : Int))).2 != 0) = false → a = 0 ∧ b = 0 ∧ c = false ∧ d = 0 := by
    intro a b d c x h
    cases ha : a != 0 with
    | true => rw [ha] at h; simp only [cond_true] at h; rw [ha] at h; cases h
    | false =>
      rw [ha] at h
      cases hb : b != 0 with
      | true => rw [hb] at h; simp only [cond_true, cond_false] at h; rw [hb] at h; cases h
      | false =>
        rw [hb] at h
        cases c with
        | true => simp at h
        | false =>
          cases hd : d != 0 with
          | true => rw [hd] at h; simp only [cond_true, cond_false] at h; rw [hd] at h; cases h
          | false => exact ⟨by simpa using ha, by simpa using hb, rfl, by simpa using hd⟩
  exact key _ _ _ _ _ h
theorem app_eq {i : Ins} {m : Am} (h1 : chkI i = 0) (h2 : chkA m = 0) (h3 : badQ i m = false) (h4 : chkI (amd i m) = 0) : appP i m = (amd i m, 0) := by
  unfold appP
  rw [h1, h2, h3, h4]
  rfl
theorem amd_idem (i : Ins) (m : Am) : amd (amd i m) m = amd i m := by
  obtain ⟨a, b, c, d, e, f, g, h, k⟩ := m
  cases a <;> cases b <;> cases c <;> cases d <;> rfl
theorem amd_back (i : Ins) (m : Am) : amd (amd i m) (bck i m) = i := by
  obtain ⟨a, b, c, d, e, f, g, h, k⟩ := m
  cases i
  cases a <;> cases b <;> cases c <;> cases d <;> rfl
theorem twice (i : Ins) (m : Am) (h : ((appP i m).2 != 0) = false) : appP (appP i m).1 m = ((appP i m).1, 0) := by
  obtain ⟨h1, h2, h3, h4⟩ := app_ok i m h
  rw [app_eq h1 h2 h3 h4]
  show appP (amd i m) m = (amd i m, 0)
  have := app_eq (i := amd i m) (m := m) h4 h2 h3 (by rw [amd_idem]; exact h4)
  rw [amd_idem] at this
  exact this
theorem chkA_back (i : Ins) (m : Am) (h1 : chkI i = 0) (h2 : chkA m = 0) (h3 : badQ i m = false) : chkA (bck i m) = 0 := by
  rw [chk_ref] at h1
  obtain ⟨f1, f2, f3, f4, f5, f6, f7⟩ := ref_facts i h1
  rw [chkA_ref] at h2 ⊢
  unfold refA at h2 ⊢
  rw [top_zero _ _ (by unfold rulesAR; simp)] at h2 ⊢
  obtain ⟨h2, -⟩ := h2
  refine ⟨?_, rfl⟩
  unfold rulesAR at h2 ⊢
  simp only [List.forall_mem_cons] at h2 ⊢
  obtain ⟨e1, -⟩ := h2
  unfold badQ isSec at h3
  obtain ⟨a, b, c, d, e, f, g, h, k⟩ := m
  simp only at e1 h3
  refine ⟨e1, ?_, ?_, ?_, ?_, ?_, fun _ h => by cases h⟩
  · simp only [bck]
    cases a <;> cases b <;> cases c <;> cases d <;> rfl
  · simp only [bck]
    cases a with
    | false => rfl
    | true =>
      have hk : i.kind = 0 ∨ i.kind = 1 := by
        simp at h3
        omega
      have := f3 (by omega)
      show (decide (i.amt < 1) || decide (1000000000000000 < i.amt)) = false
      rw [decide_eq_false (by omega), decide_eq_false (by omega)]; rfl
  · simp only [bck, dayB]
    cases b with
    | false => rfl
    | true =>
      show (!(decide (0 ≤ i.sday) && decide (i.sday ≤ 73048))) = false
      rw [decide_eq_true (by omega), decide_eq_true (by omega)]; rfl
  · simp only [bck]
    cases c with
    | false => rfl
    | true =>
      show (decide (i.prio < 0) || decide (2 < i.prio)) = false
      rw [decide_eq_false (by omega), decide_eq_false (by omega)]; rfl
  · simp only [bck]
    cases d with
    | false => rfl
    | true =>
      cases hp : i.part with
      | true =>
        have h6 := f6 hp
        have := f2 (by omega)
        show ((true && (decide (i.minlot < 1) || decide (1000000000000000 < i.minlot))) || (!true && i.minlot != 0)) = false
        rw [decide_eq_false (by omega), decide_eq_false (by omega)]; rfl
      | false =>
        have h7 := f7 hp
        show ((false && (decide (i.minlot < 1) || decide (1000000000000000 < i.minlot))) || (!false && i.minlot != 0)) = false
        rw [h7]; rfl
theorem back (i : Ins) (m : Am) (h : ((appP i m).2 != 0) = false) : appP (appP i m).1 (bck i m) = (i, 0) := by
  obtain ⟨h1, h2, h3, h4⟩ := app_ok i m h
  rw [app_eq h1 h2 h3 h4]
  show appP (amd i m) (bck i m) = (i, 0)
  have := app_eq (i := amd i m) (m := bck i m) h4 (chkA_back i m h1 h2 h3) h3 (by rw [amd_back]; exact h1)
  rw [amd_back] at this
  exact this
theorem tw1 (i : Ins) (m : Am) (h : ((appP i m).2 != 0) = false) : ((appP (appP i m).1 m).2 != 0) = false := by rw [twice i m h]; rfl
theorem tw2 (i : Ins) (m : Am) (h : ((appP i m).2 != 0) = false) : insEq (appP i m).1 (appP (appP i m).1 m).1 = true := by rw [twice i m h]; exact ins_refl _
theorem tw3 (i : Ins) (m : Am) (h : ((appP i m).2 != 0) = false) : ((appP (appP i m).1 (bck i m)).2 == 0) = true := by rw [back i m h]; rfl
theorem tw4 (i : Ins) (m : Am) (h : ((appP i m).2 != 0) = false) : sameI (appP (appP i m).1 (bck i m)).1 i = true := by rw [back i m h, ← same_eq]; exact ins_refl _
end Go.Proofs.YtljegdokbifoiaaDoor.Af
