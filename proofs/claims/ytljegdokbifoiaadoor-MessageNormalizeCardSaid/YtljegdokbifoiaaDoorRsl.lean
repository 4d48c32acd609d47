/- The plain law: the checks of amendments and requests answer as the reference's. No condition. -/
import Derived.Test.YtljegdokbifoiaaDoorRs
namespace Go.Proofs.YtljegdokbifoiaaDoor.Af
open Go.RowKit

theorem firstE_zero (l : List (Bool × Int)) : firstE l = refTop l 0 := by
  induction l with
  | nil => rfl
  | cons p l ih =>
    obtain ⟨b, e⟩ := p
    simp only [firstE, refTop, ih]
theorem chkA_ref (m : Am) : chkA m = refA m := by
  unfold chkA refA
  rw [firstE_zero]
  unfold rulesA rulesAR
  have B := @Bool.eq_iff_iff
  refine top_step rfl fun _ => top_step rfl fun h2 => ?_
  simp only [Bool.or_eq_false_iff, Bool.and_eq_false_iff, Bool.not_eq_false', bne_eq_false_iff_eq] at h2
  obtain ⟨⟨⟨ha, hd⟩, hp⟩, hq⟩ := h2
  refine top_step ?_ fun _ => top_step ?_ fun _ => top_step ?_ fun _ => top_step ?_ fun _ => rfl
  · unfold bndB winB
    rcases ha with ha | ha
    · rw [ha, B]; simp <;> omega
    · rw [ha]; cases m.hasAmt <;> rfl
  · unfold winB dayB
    rcases hd with hd | hd
    · rw [hd]; rfl
    · rw [hd]; cases m.hasDay <;> rfl
  · unfold winB
    rcases hp with hp | hp
    · rw [hp, B]; simp <;> omega
    · rw [hp]; cases m.hasPrio <;> rfl
  · unfold bndB winB
    rcases hq with hq | ⟨h1, h2⟩
    · rw [hq]
      cases m.part with
      | true => rw [B]; simp <;> omega
      | false => simp [bne]
    · rw [h1, h2]; cases m.hasPart <;> rfl
theorem tail_one (q : Rq) (b : Bool) (e : Int) (he : (e != 0) = true) : tailQ q (firstE [(b, e)]) = bif b then e else tailR q := by
  cases b with
  | true =>
    show (bif e != 0 then e else _) = e
    rw [he]; rfl
  | false =>
    show (bif q.op == 1 then chkA q.am else firstE (rQ4 q)) = tailR q
    rw [chkA_ref]
    rfl
theorem rest_ref (q : Rq) : (bif q.op == 0 then (bif chkI q.ins != 0 then chkI q.ins else tailQ q (firstE (rQ2 q))) else tailQ q (firstE (rQ3 q))) =
    (bif q.op == 0 then (bif refI q.ins != 0 then refI q.ins else bif (q.ins.ref.toList != q.ref.toList) || (q.ins.sender.toList != q.sender.toList) then 17 else tailR q) else bif !(sameI q.ins (⟨(⟨#[]⟩ : ByteArray), 0, (⟨#[]⟩ : ByteArray), (⟨#[]⟩ : ByteArray), 0, (⟨#[]⟩ : ByteArray), 0, 0, 0, 0, 0, false, 0, false, false, []⟩ : Ins)) then 3 else tailR q) := by
  rw [chk_ref, rQ2, rQ3, tail_one _ _ _ rfl, tail_one _ _ _ rfl, same_eq]
theorem chkQ_ref (q : Rq) : chkQ q = refQ q := by
  unfold chkQ
  rw [firstE_top (rQ1 q) _ (by unfold rQ1; simp), rest_ref]
  have B := @Bool.eq_iff_iff
  have e : ∀ z, (bif (decide (q.op < (0 : Int))) || (decide ((4 : Int) < q.op)) then (11 : Int) else bif (!(memB q.sender)) || (!(rfB q.ref)) then 6 else z) = refTop [((decide (q.op < (0 : Int))) || (decide ((4 : Int) < q.op)), 11), ((!(memB q.sender)) || (!(rfB q.ref)), 6)] z := fun _ => rfl
  unfold refQ
  rw [e]
  unfold rQ1
  refine top_step ?_ fun _ => ?_
  · unfold winB; rw [B]; simp <;> omega
  rw [top_or (!memB q.sender)]
end Go.Proofs.YtljegdokbifoiaaDoor.Af
