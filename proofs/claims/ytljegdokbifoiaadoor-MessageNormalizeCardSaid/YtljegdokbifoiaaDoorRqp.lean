/- Requests, as values. No condition. -/
import Derived.Test.YtljegdokbifoiaaDoorEq
import Derived.Test.YtljegdokbifoiaaDoorOw
import Derived.Test.YtljegdokbifoiaaDoorKn
namespace Go.Proofs.YtljegdokbifoiaaDoor.Af
open Go.RowKit

structure Rq where
  op : Int
  sender : ByteArray
  ref : ByteArray
  ins : Ins
  am : Am
def rqV (q : Rq) (A : Option Addr) (c : Nat) : Value :=
  .agg #[.int .i64 q.op, .string q.sender, .string q.ref, .string q.ins.ref, .int .i64 q.ins.kind, .string q.ins.sender, .string q.ins.cpty, .int .i64 q.ins.side, .string q.ins.asset, .int .i64 q.ins.qty, .int .i64 q.ins.amt, .int .i64 q.ins.tday, .int .i64 q.ins.sday, .int .i64 q.ins.prio, .bool q.ins.part, .int .i64 q.ins.minlot, .bool q.ins.hold, .bool q.ins.resv, .slice A q.ins.links.length c,
    .bool q.am.hasAmt, .bool q.am.hasDay, .bool q.am.hasPrio, .bool q.am.hasPart, .int .i64 q.am.amt, .int .i64 q.am.sday, .int .i64 q.am.prio, .bool q.am.part, .int .i64 q.am.minlot]
def rqEq (q r : Rq) : Bool := ((((q.op == r.op) && (q.sender.toList == r.sender.toList)) && (q.ref.toList == r.ref.toList)) && (insEq q.ins r.ins)) && (amEq q.am r.am)
def rqSame (q r : Rq) : Bool := ((((q.op == r.op) && (q.sender.toList == r.sender.toList)) && (q.ref.toList == r.ref.toList)) && (sameI q.ins r.ins)) && (amEq q.am r.am)
theorem rq_same (q r : Rq) : rqEq q r = rqSame q r := by unfold rqEq rqSame; rw [same_eq]
theorem lks_refl (l : List Lk) : lksEq l l = true := lksEq_yes rfl fun j x y hx hy => by
  rw [hx] at hy
  cases hy
  unfold lkEq
  simp
theorem ins_refl (i : Ins) : insEq i i = true := by
  unfold insEq insFE
  rw [lks_refl]
  simp
theorem am_refl (a : Am) : amEq a a = true := by unfold amEq; simp
theorem rq_refl (q : Rq) : rqEq q q = true := by
  unfold rqEq
  rw [ins_refl, am_refl]
  simp
end Go.Proofs.YtljegdokbifoiaaDoor.Af
