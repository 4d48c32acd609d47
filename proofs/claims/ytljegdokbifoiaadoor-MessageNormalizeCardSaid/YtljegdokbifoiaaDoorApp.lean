/- An amended instruction in plain Lean. No condition. -/
import Derived.Test.YtljegdokbifoiaaDoorRsl
namespace Go.Proofs.YtljegdokbifoiaaDoor.Af
open Go.RowKit

def zIns : Ins := ⟨⟨#[]⟩, 0, ⟨#[]⟩, ⟨#[]⟩, 0, ⟨#[]⟩, 0, 0, 0, 0, 0, false, 0, false, false, []⟩
def amd (i : Ins) (m : Am) : Ins := ⟨i.ref, i.kind, i.sender, i.cpty, i.side, i.asset, i.qty, bif m.hasAmt then m.amt else i.amt, i.tday, bif m.hasDay then m.sday else i.sday, bif m.hasPrio then m.prio else i.prio, bif m.hasPart then m.part else i.part, bif m.hasPart then m.minlot else i.minlot, i.hold, i.resv, i.links⟩
def badQ (i : Ins) (m : Am) : Bool := ((m.hasAmt && (i.kind != (0 : Int))) && (i.kind != (1 : Int))) || (m.hasPart && (!(isSec i)))
def badR (i : Ins) (m : Am) : Bool := (m.hasAmt && (decide ((1 : Int) < i.kind))) || ((m.hasPart && (i.kind != (1 : Int))) && (i.kind != (2 : Int)))
def appP (i : Ins) (m : Am) : Ins × Int := bif chkI i != 0 then (zIns, chkI i) else bif chkA m != 0 then (zIns, chkA m) else bif badQ i m then (zIns, 3) else bif chkI (amd i m) != 0 then (zIns, chkI (amd i m)) else (amd i m, 0)
def appR (i : Ins) (m : Am) : Ins × Int := bif refI i != 0 then (zIns, refI i) else bif refA m != 0 then (zIns, refA m) else bif badR i m then (zIns, 3) else bif refI (amd i m) != 0 then (zIns, refI (amd i m)) else (amd i m, 0)
theorem ref_kind (i : Ins) (h : refI i = 0) : 0 ≤ i.kind := by
  unfold refI rules15 at h
  simp only [refTop] at h
  by_cases hk : i.kind < 0
  · rw [decide_eq_true hk] at h
    exact absurd h (by simp)
  · omega
theorem app_ref (i : Ins) (m : Am) : appP i m = appR i m := by
  unfold appP appR
  rw [chk_ref, chkA_ref, chk_ref]
  cases h : refI i != 0 with
  | true => rfl
  | false =>
    have hk := ref_kind i (by simpa using h)
    have : badQ i m = badR i m := by
      unfold badQ badR isSec
      rw [@Bool.eq_iff_iff]
      cases m.hasAmt <;> cases m.hasPart <;> simp <;> omega
    rw [this]
theorem app_links_len (i : Ins) (m : Am) : (appP i m).1.links.length ≤ i.links.length := by
  unfold appP
  cases chkI i != 0 with
  | true => exact Nat.zero_le _
  | false =>
    cases chkA m != 0 with
    | true => exact Nat.zero_le _
    | false =>
      cases badQ i m with
      | true => exact Nat.zero_le _
      | false =>
        cases chkI (amd i m) != 0 with
        | true => exact Nat.zero_le _
        | false => exact Nat.le_refl _
end Go.Proofs.YtljegdokbifoiaaDoor.Af
