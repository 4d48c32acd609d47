/- The law of Equal. No condition but the arguments' own. -/
import Derived.Test.YtljegdokbifoiaaDoorRq
namespace Go.Proofs.YtljegdokbifoiaaDoor.Af
open Go.RowKit
set_option maxHeartbeats 4000000 in
set_option maxRecDepth 20000 in
theorem law6 (q r : Rq) (A B : Option Addr) (c d : Nat) (w : World) (hr : Rd w A (lkc q.ins.links)) (hr2 : Rd w B (lkc r.ins.links)) : Calls Tryd.prog 6 #[.agg #[.int .i64 q.op, .string q.sender, .string q.ref, .string q.ins.ref, .int .i64 q.ins.kind, .string q.ins.sender, .string q.ins.cpty, .int .i64 q.ins.side, .string q.ins.asset, .int .i64 q.ins.qty, .int .i64 q.ins.amt, .int .i64 q.ins.tday, .int .i64 q.ins.sday, .int .i64 q.ins.prio, .bool q.ins.part, .int .i64 q.ins.minlot, .bool q.ins.hold, .bool q.ins.resv, .slice A q.ins.links.length c, .bool q.am.hasAmt, .bool q.am.hasDay, .bool q.am.hasPrio, .bool q.am.hasPart, .int .i64 q.am.amt, .int .i64 q.am.sday, .int .i64 q.am.prio, .bool q.am.part, .int .i64 q.am.minlot], .agg #[.int .i64 r.op, .string r.sender, .string r.ref, .string r.ins.ref, .int .i64 r.ins.kind, .string r.ins.sender, .string r.ins.cpty, .int .i64 r.ins.side, .string r.ins.asset, .int .i64 r.ins.qty, .int .i64 r.ins.amt, .int .i64 r.ins.tday, .int .i64 r.ins.sday, .int .i64 r.ins.prio, .bool r.ins.part, .int .i64 r.ins.minlot, .bool r.ins.hold, .bool r.ins.resv, .slice B r.ins.links.length d, .bool r.am.hasAmt, .bool r.am.hasDay, .bool r.am.hasPrio, .bool r.am.hasPart, .int .i64 r.am.amt, .int .i64 r.am.sday, .int .i64 r.am.prio, .bool r.am.part, .int .i64 r.am.minlot]] w fun e w' => e = .returned (.bool true) ∧ Below w.heap.size w w' := by
  refine enter Tryd.func6 (by kernel_rfl) ?_ (by kernel_rfl)
  intro q0 h0
  replace h0 := h0.conv (l' := [(0, .agg #[.int .i64 q.op, .string q.sender, .string q.ref, .string q.ins.ref, .int .i64 q.ins.kind, .string q.ins.sender, .string q.ins.cpty, .int .i64 q.ins.side, .string q.ins.asset, .int .i64 q.ins.qty, .int .i64 q.ins.amt, .int .i64 q.ins.tday, .int .i64 q.ins.sday, .int .i64 q.ins.prio, .bool q.ins.part, .int .i64 q.ins.minlot, .bool q.ins.hold, .bool q.ins.resv, .slice A q.ins.links.length c, .bool q.am.hasAmt, .bool q.am.hasDay, .bool q.am.hasPrio, .bool q.am.hasPart, .int .i64 q.am.amt, .int .i64 q.am.sday, .int .i64 q.am.prio, .bool q.am.part, .int .i64 q.am.minlot]), (1, .agg #[.int .i64 r.op, .string r.sender, .string r.ref, .string r.ins.ref, .int .i64 r.ins.kind, .string r.ins.sender, .string r.ins.cpty, .int .i64 r.ins.side, .string r.ins.asset, .int .i64 r.ins.qty, .int .i64 r.ins.amt, .int .i64 r.ins.tday, .int .i64 r.ins.sday, .int .i64 r.ins.prio, .bool r.ins.part, .int .i64 r.ins.minlot, .bool r.ins.hold, .bool r.ins.resv, .slice B r.ins.links.length d, .bool r.am.hasAmt, .bool r.am.hasDay, .bool r.am.hasPrio, .bool r.am.hasPart, .int .i64 r.am.amt, .int .i64 r.am.sday, .int .i64 r.am.prio, .bool r.am.part, .int .i64 r.am.minlot])]) rfl
  have hB := Bx.refl w
  refine kS ?_
  refine rp 3 ?_
  refine sA 0 2 (fun b => .pointer (some ⟨b, 0, none⟩)) (.cells #[.int .i64 q.op, .string q.sender, .string q.ref, .string q.ins.ref, .int .i64 q.ins.kind, .string q.ins.sender, .string q.ins.cpty, .int .i64 q.ins.side, .string q.ins.asset, .int .i64 q.ins.qty, .int .i64 q.ins.amt, .int .i64 q.ins.tday, .int .i64 q.ins.sday, .int .i64 q.ins.prio, .bool q.ins.part, .int .i64 q.ins.minlot, .bool q.ins.hold, .bool q.ins.resv, .slice A q.ins.links.length c, .bool q.am.hasAmt, .bool q.am.hasDay, .bool q.am.hasPrio, .bool q.am.hasPart, .int .i64 q.am.amt, .int .i64 q.am.sday, .int .i64 q.am.prio, .bool q.am.part, .int .i64 q.am.minlot] 42 (0, 0)) h0 gok_none hB (fun _ _ hq => trivial) (fun b3 w4 hB5 hN q1 h2 => ?_)
  clear h0 hB hN
  refine sA 1 3 (fun b => .pointer (some ⟨b, 0, none⟩)) (.cells #[.int .i64 r.op, .string r.sender, .string r.ref, .string r.ins.ref, .int .i64 r.ins.kind, .string r.ins.sender, .string r.ins.cpty, .int .i64 r.ins.side, .string r.ins.asset, .int .i64 r.ins.qty, .int .i64 r.ins.amt, .int .i64 r.ins.tday, .int .i64 r.ins.sday, .int .i64 r.ins.prio, .bool r.ins.part, .int .i64 r.ins.minlot, .bool r.ins.hold, .bool r.ins.resv, .slice B r.ins.links.length d, .bool r.am.hasAmt, .bool r.am.hasDay, .bool r.am.hasPrio, .bool r.am.hasPart, .int .i64 r.am.amt, .int .i64 r.am.sday, .int .i64 r.am.prio, .bool r.am.part, .int .i64 r.am.minlot] 42 (0, 0)) h2 gok_none hB5 (fun _ _ hq => trivial) (fun b8 w9 hB10 hN q6 h7 => ?_)
  clear h2 hB5 hN
  refine b0 (.C 2 4 <| .nil) [(4, .bool false), (3, .pointer (some ⟨b8, 0, none⟩)), (2, .pointer (some ⟨b3, 0, none⟩))] h7 (Kw.nil hB10) fun q11 h12 => ?_
  clear h7
  refine wpO_end ?_
  refine then_n ?_
  refine kS ?_
  refine kS ?_
  refine rp 12 ?_
  refine b0 (.C 0 7 <| .C 1 8 <| .L 2 9 1 18 <| .E 3 10 (.int .i64 ((q.ins.links.length : Nat) : Int)) <| .E 4 11 (.bool (decide ((40 : Int) < ((q.ins.links.length : Nat) : Int)))) <| .C 5 12 <| .J 11 18 12 17 false (decide ((40 : Int) < ((q.ins.links.length : Nat) : Int))) (decide ((40 : Int) < ((r.ins.links.length : Nat) : Int))) (.C 6 13 <| .C 7 14 <| .L 8 15 0 18 <| .E 9 16 (.int .i64 ((r.ins.links.length : Nat) : Int)) <| .E 10 17 (.bool (decide ((40 : Int) < ((r.ins.links.length : Nat) : Int)))) <| .nil) <| .nil) [(18, .bool ((decide ((40 : Int) < ((q.ins.links.length : Nat) : Int))) || (decide ((40 : Int) < ((r.ins.links.length : Nat) : Int))))), (4, .bool false), (3, .pointer (some ⟨b8, 0, none⟩)), (2, .pointer (some ⟨b3, 0, none⟩))] h12 (Kw.nil hB10) fun q13 h14 => ?_
  clear h12
  refine wpO_end ?_
  refine then_n ?_
  refine kC 18 ((decide ((40 : Int) < ((q.ins.links.length : Nat) : Int))) || (decide ((40 : Int) < ((r.ins.links.length : Nat) : Int)))) h14 (fun hc15 => ?_) (fun hc15 => ?_)
  ·
    refine kS ?_
    refine rp 2 ?_
    refine sC 0 19 h14 gok_none (c12 w9) ?_
    rintro _ w18 ⟨rfl, hb19⟩
    have hB20 := hB10.call hb19
    refine ⟨_, rfl, trivial, fun q16 h17 => ?_⟩
    clear h14 hB10 hb19
    refine b0 (.C 1 4 <| .nil) [(4, .bool true), (3, .pointer (some ⟨b8, 0, none⟩)), (2, .pointer (some ⟨b3, 0, none⟩))] h17 (Kw.nil hB20) fun q21 h22 => ?_
    clear h17
    refine wpO_end ?_
    refine then_n ?_
    refine c_ret (by kernel_rfl) ?_
    refine then_r ?_
    refine ret1 (t := 4) (v := .bool true) h22 (by kernel_rfl) (by kernel_rfl) ?_
    exact ⟨ret_eq (rfl), hB20.bel⟩
  have h40 : q.ins.links.length ≤ 40 ∧ r.ins.links.length ≤ 40 := by have := hc15; simp at this; omega
  refine c_skip (by kernel_rfl) ?_
  refine then_n ?_
  refine kS ?_
  refine c_cut (fun qa qw => ∃ (A31 : Option Addr) (c32 : Nat) (A40 : Option Addr) (c41 : Nat) (b50 : Nat) (b57 : Nat), Fr 53 [(6, .pointer (some ⟨b57, 0, none⟩)), (5, .pointer (some ⟨b50, 0, none⟩)), (4, .bool false), (3, .pointer (some ⟨b8, 0, none⟩)), (2, .pointer (some ⟨b3, 0, none⟩))] qa ∧ Bx w [(b57, .cells #[.int .i64 r.op, .string r.sender, .string r.ref, .string r.ins.ref, .int .i64 r.ins.kind, .string r.ins.sender, .string r.ins.cpty, .int .i64 r.ins.side, .string r.ins.asset, .int .i64 r.ins.qty, .int .i64 r.ins.amt, .int .i64 r.ins.tday, .int .i64 r.ins.sday, .int .i64 r.ins.prio, .bool r.ins.part, .int .i64 r.ins.minlot, .bool r.ins.hold, .bool r.ins.resv, .slice A40 r.ins.links.length c41, .bool r.am.hasAmt, .bool r.am.hasDay, .bool r.am.hasPrio, .bool r.am.hasPart, .int .i64 r.am.amt, .int .i64 r.am.sday, .int .i64 r.am.prio, .bool r.am.part, .int .i64 r.am.minlot] 45 (0, 0)), (b50, .cells #[.int .i64 q.op, .string q.sender, .string q.ref, .string q.ins.ref, .int .i64 q.ins.kind, .string q.ins.sender, .string q.ins.cpty, .int .i64 q.ins.side, .string q.ins.asset, .int .i64 q.ins.qty, .int .i64 q.ins.amt, .int .i64 q.ins.tday, .int .i64 q.ins.sday, .int .i64 q.ins.prio, .bool q.ins.part, .int .i64 q.ins.minlot, .bool q.ins.hold, .bool q.ins.resv, .slice A31 q.ins.links.length c32, .bool q.am.hasAmt, .bool q.am.hasDay, .bool q.am.hasPrio, .bool q.am.hasPart, .int .i64 q.am.amt, .int .i64 q.am.sday, .int .i64 q.am.prio, .bool q.am.part, .int .i64 q.am.minlot] 45 (0, 0)), (b8, .cells #[.int .i64 r.op, .string r.sender, .string r.ref, .string r.ins.ref, .int .i64 r.ins.kind, .string r.ins.sender, .string r.ins.cpty, .int .i64 r.ins.side, .string r.ins.asset, .int .i64 r.ins.qty, .int .i64 r.ins.amt, .int .i64 r.ins.tday, .int .i64 r.ins.sday, .int .i64 r.ins.prio, .bool r.ins.part, .int .i64 r.ins.minlot, .bool r.ins.hold, .bool r.ins.resv, .slice B r.ins.links.length d, .bool r.am.hasAmt, .bool r.am.hasDay, .bool r.am.hasPrio, .bool r.am.hasPart, .int .i64 r.am.amt, .int .i64 r.am.sday, .int .i64 r.am.prio, .bool r.am.part, .int .i64 r.am.minlot] 42 (0, 0)), (b3, .cells #[.int .i64 q.op, .string q.sender, .string q.ref, .string q.ins.ref, .int .i64 q.ins.kind, .string q.ins.sender, .string q.ins.cpty, .int .i64 q.ins.side, .string q.ins.asset, .int .i64 q.ins.qty, .int .i64 q.ins.amt, .int .i64 q.ins.tday, .int .i64 q.ins.sday, .int .i64 q.ins.prio, .bool q.ins.part, .int .i64 q.ins.minlot, .bool q.ins.hold, .bool q.ins.resv, .slice A q.ins.links.length c, .bool q.am.hasAmt, .bool q.am.hasDay, .bool q.am.hasPrio, .bool q.am.hasPart, .int .i64 q.am.amt, .int .i64 q.am.sday, .int .i64 q.am.prio, .bool q.am.part, .int .i64 q.am.minlot] 42 (0, 0))] qw ∧ World.ownsRow qw w.heap.size 66 2 (.slice A31 q.ins.links.length c32) q.ins.links.length (lkc q.ins.links) ∧ World.ownsRow qw w.heap.size 66 2 (.slice A40 r.ins.links.length c41) r.ins.links.length (lkc r.ins.links)) ?_ ?_
  ·
    have hD74 := hB10.drew
    refine reg_plan (S := Bx w [(b8, .cells #[.int .i64 r.op, .string r.sender, .string r.ref, .string r.ins.ref, .int .i64 r.ins.kind, .string r.ins.sender, .string r.ins.cpty, .int .i64 r.ins.side, .string r.ins.asset, .int .i64 r.ins.qty, .int .i64 r.ins.amt, .int .i64 r.ins.tday, .int .i64 r.ins.sday, .int .i64 r.ins.prio, .bool r.ins.part, .int .i64 r.ins.minlot, .bool r.ins.hold, .bool r.ins.resv, .slice B r.ins.links.length d, .bool r.am.hasAmt, .bool r.am.hasDay, .bool r.am.hasPrio, .bool r.am.hasPart, .int .i64 r.am.amt, .int .i64 r.am.sday, .int .i64 r.am.prio, .bool r.am.part, .int .i64 r.am.minlot] 42 (0, 0)), (b3, .cells #[.int .i64 q.op, .string q.sender, .string q.ref, .string q.ins.ref, .int .i64 q.ins.kind, .string q.ins.sender, .string q.ins.cpty, .int .i64 q.ins.side, .string q.ins.asset, .int .i64 q.ins.qty, .int .i64 q.ins.amt, .int .i64 q.ins.tday, .int .i64 q.ins.sday, .int .i64 q.ins.prio, .bool q.ins.part, .int .i64 q.ins.minlot, .bool q.ins.hold, .bool q.ins.resv, .slice A q.ins.links.length c, .bool q.am.hasAmt, .bool q.am.hasDay, .bool q.am.hasPrio, .bool q.am.hasPart, .int .i64 q.am.amt, .int .i64 q.am.sday, .int .i64 q.am.prio, .bool q.am.part, .int .i64 q.am.minlot] 42 (0, 0))]) 8 [⟨0, true, 0, 4, 1048576⟩, ⟨1, false, 1, 1048576, 2097152⟩, ⟨2, true, 0, 8, 4194304⟩, ⟨3, false, 6, 4194304, 8388608⟩, ⟨4, false, 0, 0, 32⟩, ⟨5, false, 0, 0, 64⟩, ⟨6, false, 59, 2097184, 0⟩, ⟨7, false, 127, 8388672, 0⟩] (.free ⟨0, true, 0, 4, 1048576⟩ (.free ⟨2, true, 0, 8, 4194304⟩ (.alt ⟨1, false, 1, 1048576, 2097152⟩ (.alt ⟨3, false, 6, 4194304, 8388608⟩ (.alt ⟨4, false, 0, 0, 32⟩ (.alt ⟨5, false, 0, 0, 64⟩ (.alt ⟨6, false, 59, 2097184, 0⟩ (.alt ⟨7, false, 127, 8388672, 0⟩ (.done) (.none)) (.none)) (.none)) (.alt ⟨5, false, 0, 0, 64⟩ (.alt ⟨4, false, 0, 0, 32⟩ (.alt ⟨6, false, 59, 2097184, 0⟩ (.alt ⟨7, false, 127, 8388672, 0⟩ (.done) (.none)) (.none)) (.none)) (.none))) (.alt ⟨4, false, 0, 0, 32⟩ (.alt ⟨3, false, 6, 4194304, 8388608⟩ (.alt ⟨5, false, 0, 0, 64⟩ (.alt ⟨6, false, 59, 2097184, 0⟩ (.alt ⟨7, false, 127, 8388672, 0⟩ (.done) (.none)) (.none)) (.none)) (.alt ⟨5, false, 0, 0, 64⟩ (.alt ⟨3, false, 6, 4194304, 8388608⟩ (.alt ⟨6, false, 59, 2097184, 0⟩ (.alt ⟨7, false, 127, 8388672, 0⟩ (.done) (.none)) (.none)) (.none)) (.none))) (.alt ⟨5, false, 0, 0, 64⟩ (.alt ⟨3, false, 6, 4194304, 8388608⟩ (.alt ⟨4, false, 0, 0, 32⟩ (.alt ⟨6, false, 59, 2097184, 0⟩ (.alt ⟨7, false, 127, 8388672, 0⟩ (.done) (.none)) (.none)) (.none)) (.alt ⟨4, false, 0, 0, 32⟩ (.alt ⟨3, false, 6, 4194304, 8388608⟩ (.alt ⟨6, false, 59, 2097184, 0⟩ (.alt ⟨7, false, 127, 8388672, 0⟩ (.done) (.none)) (.none)) (.none)) (.none))) (.none)))) (.alt ⟨4, false, 0, 0, 32⟩ (.alt ⟨1, false, 1, 1048576, 2097152⟩ (.alt ⟨3, false, 6, 4194304, 8388608⟩ (.alt ⟨5, false, 0, 0, 64⟩ (.alt ⟨6, false, 59, 2097184, 0⟩ (.alt ⟨7, false, 127, 8388672, 0⟩ (.done) (.none)) (.none)) (.none)) (.alt ⟨5, false, 0, 0, 64⟩ (.alt ⟨3, false, 6, 4194304, 8388608⟩ (.alt ⟨6, false, 59, 2097184, 0⟩ (.alt ⟨7, false, 127, 8388672, 0⟩ (.done) (.none)) (.none)) (.none)) (.none))) (.alt ⟨5, false, 0, 0, 64⟩ (.alt ⟨1, false, 1, 1048576, 2097152⟩ (.alt ⟨3, false, 6, 4194304, 8388608⟩ (.alt ⟨6, false, 59, 2097184, 0⟩ (.alt ⟨7, false, 127, 8388672, 0⟩ (.done) (.none)) (.none)) (.none)) (.none)) (.none))) (.alt ⟨5, false, 0, 0, 64⟩ (.alt ⟨1, false, 1, 1048576, 2097152⟩ (.alt ⟨3, false, 6, 4194304, 8388608⟩ (.alt ⟨4, false, 0, 0, 32⟩ (.alt ⟨6, false, 59, 2097184, 0⟩ (.alt ⟨7, false, 127, 8388672, 0⟩ (.done) (.none)) (.none)) (.none)) (.alt ⟨4, false, 0, 0, 32⟩ (.alt ⟨3, false, 6, 4194304, 8388608⟩ (.alt ⟨6, false, 59, 2097184, 0⟩ (.alt ⟨7, false, 127, 8388672, 0⟩ (.done) (.none)) (.none)) (.none)) (.none))) (.alt ⟨4, false, 0, 0, 32⟩ (.alt ⟨1, false, 1, 1048576, 2097152⟩ (.alt ⟨3, false, 6, 4194304, 8388608⟩ (.alt ⟨6, false, 59, 2097184, 0⟩ (.alt ⟨7, false, 127, 8388672, 0⟩ (.done) (.none)) (.none)) (.none)) (.none)) (.none))) (.none)))))) (by kernel_rfl) (by kernel_rfl) (by kernel_rfl) (fun _ _ _ _ h => absurd h.2 (by simp)) hD74 ?_
    generalize World.drew w9 = w75 at hD74 ⊢
    refine p_free ?_
    refine fE 0 20 (.load 42 (.tmp 2)) 42 (.agg #[.int .i64 q.op, .string q.sender, .string q.ref, .string q.ins.ref, .int .i64 q.ins.kind, .string q.ins.sender, .string q.ins.cpty, .int .i64 q.ins.side, .string q.ins.asset, .int .i64 q.ins.qty, .int .i64 q.ins.amt, .int .i64 q.ins.tday, .int .i64 q.ins.sday, .int .i64 q.ins.prio, .bool q.ins.part, .int .i64 q.ins.minlot, .bool q.ins.hold, .bool q.ins.resv, .slice A q.ins.links.length c, .bool q.am.hasAmt, .bool q.am.hasDay, .bool q.am.hasPrio, .bool q.am.hasPart, .int .i64 q.am.amt, .int .i64 q.am.sday, .int .i64 q.am.prio, .bool q.am.part, .int .i64 q.am.minlot]) h14 (hr := fun _ hS => r_loadS (b := b3) (vs := [.int .i64 q.op, .string q.sender, .string q.ref, .string q.ins.ref, .int .i64 q.ins.kind, .string q.ins.sender, .string q.ins.cpty, .int .i64 q.ins.side, .string q.ins.asset, .int .i64 q.ins.qty, .int .i64 q.ins.amt, .int .i64 q.ins.tday, .int .i64 q.ins.sday, .int .i64 q.ins.prio, .bool q.ins.part, .int .i64 q.ins.minlot, .bool q.ins.hold, .bool q.ins.resv, .slice A q.ins.links.length c, .bool q.am.hasAmt, .bool q.am.hasDay, .bool q.am.hasPrio, .bool q.am.hasPart, .int .i64 q.am.amt, .int .i64 q.am.sday, .int .i64 q.am.prio, .bool q.am.part, .int .i64 q.am.minlot]) hS 1 0 (by kernel_rfl) (by kernel_rfl) (by kernel_rfl)) fun q76 h77 => ?_
    clear h14
    refine wpO_end ?_
    refine cut_n ?_
    refine p_free ?_
    refine fE 2 22 (.load 42 (.tmp 3)) 42 (.agg #[.int .i64 r.op, .string r.sender, .string r.ref, .string r.ins.ref, .int .i64 r.ins.kind, .string r.ins.sender, .string r.ins.cpty, .int .i64 r.ins.side, .string r.ins.asset, .int .i64 r.ins.qty, .int .i64 r.ins.amt, .int .i64 r.ins.tday, .int .i64 r.ins.sday, .int .i64 r.ins.prio, .bool r.ins.part, .int .i64 r.ins.minlot, .bool r.ins.hold, .bool r.ins.resv, .slice B r.ins.links.length d, .bool r.am.hasAmt, .bool r.am.hasDay, .bool r.am.hasPrio, .bool r.am.hasPart, .int .i64 r.am.amt, .int .i64 r.am.sday, .int .i64 r.am.prio, .bool r.am.part, .int .i64 r.am.minlot]) h77 (hr := fun _ hS => r_loadS (b := b8) (vs := [.int .i64 r.op, .string r.sender, .string r.ref, .string r.ins.ref, .int .i64 r.ins.kind, .string r.ins.sender, .string r.ins.cpty, .int .i64 r.ins.side, .string r.ins.asset, .int .i64 r.ins.qty, .int .i64 r.ins.amt, .int .i64 r.ins.tday, .int .i64 r.ins.sday, .int .i64 r.ins.prio, .bool r.ins.part, .int .i64 r.ins.minlot, .bool r.ins.hold, .bool r.ins.resv, .slice B r.ins.links.length d, .bool r.am.hasAmt, .bool r.am.hasDay, .bool r.am.hasPrio, .bool r.am.hasPart, .int .i64 r.am.amt, .int .i64 r.am.sday, .int .i64 r.am.prio, .bool r.am.part, .int .i64 r.am.minlot]) hS 0 0 (by kernel_rfl) (by kernel_rfl) (by kernel_rfl)) fun q78 h79 => ?_
    clear h77
    refine wpO_end ?_
    refine cut_n ?_
    refine p_alt ?_ ?_
    ·
      refine sC 1 21 h79 gok_none (c23 q A c w75 (by omega) (hr.below hD74.bel)) ?_
      rintro _ w84 ⟨A82, c83, rfl, ho88, hb85⟩
      have ho87 := own_base ho88 hD74.bel.size
      have hB86 := hD74.call hb85
      refine ⟨_, rfl, hB86, fun q80 h81 => ?_⟩
      clear h79 hD74 hb85
      refine wpO_end ?_
      refine cut_n ?_
      refine p_alt ?_ ?_
      ·
        refine sC 3 23 h81 gok_none (c23 r B d w84 (by omega) (hr2.below hB86.bel)) ?_
        rintro _ w93 ⟨A91, c92, rfl, ho97, hb94⟩
        have ho96 := own_base ho97 hB86.bel.size
        have hB95 := hB86.call hb94
        have ho98 := own_below ho87 hb94
        refine ⟨_, rfl, hB95, fun q89 h90 => ?_⟩
        clear h81 hB86 hb94
        refine wpO_end ?_
        refine cut_n ?_
        refine p_alt ?_ ?_
        ·
          refine sA 4 5 (fun b => .pointer (some ⟨b, 0, none⟩)) (.cells #[.int .i64 0, .string (⟨#[]⟩ : ByteArray), .string (⟨#[]⟩ : ByteArray), .string (⟨#[]⟩ : ByteArray), .int .i64 0, .string (⟨#[]⟩ : ByteArray), .string (⟨#[]⟩ : ByteArray), .int .i64 0, .string (⟨#[]⟩ : ByteArray), .int .i64 0, .int .i64 0, .int .i64 0, .int .i64 0, .int .i64 0, .bool false, .int .i64 0, .bool false, .bool false, .slice none 0 0, .bool false, .bool false, .bool false, .bool false, .int .i64 0, .int .i64 0, .int .i64 0, .bool false, .int .i64 0] 45 (0, 0)) h90 gok_none hB95 (fun _ _ hq => hq.tail) (fun b101 w102 hB103 hN q99 h100 => ?_)
          have ho104 := own_below ho98 hN
          have ho105 := own_below ho96 hN
          clear h90 hB95 hN
          refine wpO_end ?_
          refine cut_n ?_
          refine p_alt ?_ ?_
          ·
            refine sA 5 6 (fun b => .pointer (some ⟨b, 0, none⟩)) (.cells #[.int .i64 0, .string (⟨#[]⟩ : ByteArray), .string (⟨#[]⟩ : ByteArray), .string (⟨#[]⟩ : ByteArray), .int .i64 0, .string (⟨#[]⟩ : ByteArray), .string (⟨#[]⟩ : ByteArray), .int .i64 0, .string (⟨#[]⟩ : ByteArray), .int .i64 0, .int .i64 0, .int .i64 0, .int .i64 0, .int .i64 0, .bool false, .int .i64 0, .bool false, .bool false, .slice none 0 0, .bool false, .bool false, .bool false, .bool false, .int .i64 0, .int .i64 0, .int .i64 0, .bool false, .int .i64 0] 45 (0, 0)) h100 gok_none hB103 (fun _ _ hq => hq.tail.tail) (fun b108 w109 hB110 hN q106 h107 => ?_)
            have ho111 := own_below ho104 hN
            have ho112 := own_below ho105 hN
            clear h100 hB103 hN
            refine wpO_end ?_
            refine cut_n ?_
            refine p_alt ?_ ?_
            ·
              refine sW 6 1 0 [(b108, .cells #[.int .i64 0, .string (⟨#[]⟩ : ByteArray), .string (⟨#[]⟩ : ByteArray), .string (⟨#[]⟩ : ByteArray), .int .i64 0, .string (⟨#[]⟩ : ByteArray), .string (⟨#[]⟩ : ByteArray), .int .i64 0, .string (⟨#[]⟩ : ByteArray), .int .i64 0, .int .i64 0, .int .i64 0, .int .i64 0, .int .i64 0, .bool false, .int .i64 0, .bool false, .bool false, .slice none 0 0, .bool false, .bool false, .bool false, .bool false, .int .i64 0, .int .i64 0, .int .i64 0, .bool false, .int .i64 0] 45 (0, 0)), (b101, .cells #[.int .i64 q.op, .string q.sender, .string q.ref, .string q.ins.ref, .int .i64 q.ins.kind, .string q.ins.sender, .string q.ins.cpty, .int .i64 q.ins.side, .string q.ins.asset, .int .i64 q.ins.qty, .int .i64 q.ins.amt, .int .i64 q.ins.tday, .int .i64 q.ins.sday, .int .i64 q.ins.prio, .bool q.ins.part, .int .i64 q.ins.minlot, .bool q.ins.hold, .bool q.ins.resv, .slice A82 q.ins.links.length c83, .bool q.am.hasAmt, .bool q.am.hasDay, .bool q.am.hasPrio, .bool q.am.hasPart, .int .i64 q.am.amt, .int .i64 q.am.sday, .int .i64 q.am.prio, .bool q.am.part, .int .i64 q.am.minlot] 45 (0, 0)), (b8, .cells #[.int .i64 r.op, .string r.sender, .string r.ref, .string r.ins.ref, .int .i64 r.ins.kind, .string r.ins.sender, .string r.ins.cpty, .int .i64 r.ins.side, .string r.ins.asset, .int .i64 r.ins.qty, .int .i64 r.ins.amt, .int .i64 r.ins.tday, .int .i64 r.ins.sday, .int .i64 r.ins.prio, .bool r.ins.part, .int .i64 r.ins.minlot, .bool r.ins.hold, .bool r.ins.resv, .slice B r.ins.links.length d, .bool r.am.hasAmt, .bool r.am.hasDay, .bool r.am.hasPrio, .bool r.am.hasPart, .int .i64 r.am.amt, .int .i64 r.am.sday, .int .i64 r.am.prio, .bool r.am.part, .int .i64 r.am.minlot] 42 (0, 0)), (b3, .cells #[.int .i64 q.op, .string q.sender, .string q.ref, .string q.ins.ref, .int .i64 q.ins.kind, .string q.ins.sender, .string q.ins.cpty, .int .i64 q.ins.side, .string q.ins.asset, .int .i64 q.ins.qty, .int .i64 q.ins.amt, .int .i64 q.ins.tday, .int .i64 q.ins.sday, .int .i64 q.ins.prio, .bool q.ins.part, .int .i64 q.ins.minlot, .bool q.ins.hold, .bool q.ins.resv, .slice A q.ins.links.length c, .bool q.am.hasAmt, .bool q.am.hasDay, .bool q.am.hasPrio, .bool q.am.hasPart, .int .i64 q.am.amt, .int .i64 q.am.sday, .int .i64 q.am.prio, .bool q.am.part, .int .i64 q.am.minlot] 42 (0, 0))] h107 gok_none hB110 (.inr fun _ hq => hq.tail.tail) (fun w115 hB116 hT q113 h114 => ?_)
              clear h107 hB110
              have ho117 := own_turned ho111 hT (by kernel_rfl)
              have ho118 := own_turned ho112 hT (by kernel_rfl)
              clear hT
              refine wpO_end ?_
              refine cut_n ?_
              refine p_alt ?_ ?_
              ·
                refine sW 7 0 0 [(b108, .cells #[.int .i64 r.op, .string r.sender, .string r.ref, .string r.ins.ref, .int .i64 r.ins.kind, .string r.ins.sender, .string r.ins.cpty, .int .i64 r.ins.side, .string r.ins.asset, .int .i64 r.ins.qty, .int .i64 r.ins.amt, .int .i64 r.ins.tday, .int .i64 r.ins.sday, .int .i64 r.ins.prio, .bool r.ins.part, .int .i64 r.ins.minlot, .bool r.ins.hold, .bool r.ins.resv, .slice A91 r.ins.links.length c92, .bool r.am.hasAmt, .bool r.am.hasDay, .bool r.am.hasPrio, .bool r.am.hasPart, .int .i64 r.am.amt, .int .i64 r.am.sday, .int .i64 r.am.prio, .bool r.am.part, .int .i64 r.am.minlot] 45 (0, 0)), (b101, .cells #[.int .i64 q.op, .string q.sender, .string q.ref, .string q.ins.ref, .int .i64 q.ins.kind, .string q.ins.sender, .string q.ins.cpty, .int .i64 q.ins.side, .string q.ins.asset, .int .i64 q.ins.qty, .int .i64 q.ins.amt, .int .i64 q.ins.tday, .int .i64 q.ins.sday, .int .i64 q.ins.prio, .bool q.ins.part, .int .i64 q.ins.minlot, .bool q.ins.hold, .bool q.ins.resv, .slice A82 q.ins.links.length c83, .bool q.am.hasAmt, .bool q.am.hasDay, .bool q.am.hasPrio, .bool q.am.hasPart, .int .i64 q.am.amt, .int .i64 q.am.sday, .int .i64 q.am.prio, .bool q.am.part, .int .i64 q.am.minlot] 45 (0, 0)), (b8, .cells #[.int .i64 r.op, .string r.sender, .string r.ref, .string r.ins.ref, .int .i64 r.ins.kind, .string r.ins.sender, .string r.ins.cpty, .int .i64 r.ins.side, .string r.ins.asset, .int .i64 r.ins.qty, .int .i64 r.ins.amt, .int .i64 r.ins.tday, .int .i64 r.ins.sday, .int .i64 r.ins.prio, .bool r.ins.part, .int .i64 r.ins.minlot, .bool r.ins.hold, .bool r.ins.resv, .slice B r.ins.links.length d, .bool r.am.hasAmt, .bool r.am.hasDay, .bool r.am.hasPrio, .bool r.am.hasPart, .int .i64 r.am.amt, .int .i64 r.am.sday, .int .i64 r.am.prio, .bool r.am.part, .int .i64 r.am.minlot] 42 (0, 0)), (b3, .cells #[.int .i64 q.op, .string q.sender, .string q.ref, .string q.ins.ref, .int .i64 q.ins.kind, .string q.ins.sender, .string q.ins.cpty, .int .i64 q.ins.side, .string q.ins.asset, .int .i64 q.ins.qty, .int .i64 q.ins.amt, .int .i64 q.ins.tday, .int .i64 q.ins.sday, .int .i64 q.ins.prio, .bool q.ins.part, .int .i64 q.ins.minlot, .bool q.ins.hold, .bool q.ins.resv, .slice A q.ins.links.length c, .bool q.am.hasAmt, .bool q.am.hasDay, .bool q.am.hasPrio, .bool q.am.hasPart, .int .i64 q.am.amt, .int .i64 q.am.sday, .int .i64 q.am.prio, .bool q.am.part, .int .i64 q.am.minlot] 42 (0, 0))] h114 gok_none hB116 (.inr fun _ hq => hq.tail.tail) (fun w121 hB122 hT q119 h120 => ?_)
                clear h114 hB116
                have ho123 := own_turned ho117 hT (by kernel_rfl)
                have ho124 := own_turned ho118 hT (by kernel_rfl)
                clear hT
                refine wpO_end ?_
                refine cut_n ?_
                refine p_done ?_
                exact cut_n ⟨A82, c83, A91, c92, b101, b108, h120.keep _ ⟨rfl, rfl, rfl, rfl, rfl, trivial⟩, hB122.sel [0, 1, 2, 3] (by decide) rfl, ho123, ho124⟩
              exact p_none
            exact p_none
          exact p_none
        refine p_alt ?_ ?_
        ·
          refine sA 5 6 (fun b => .pointer (some ⟨b, 0, none⟩)) (.cells #[.int .i64 0, .string (⟨#[]⟩ : ByteArray), .string (⟨#[]⟩ : ByteArray), .string (⟨#[]⟩ : ByteArray), .int .i64 0, .string (⟨#[]⟩ : ByteArray), .string (⟨#[]⟩ : ByteArray), .int .i64 0, .string (⟨#[]⟩ : ByteArray), .int .i64 0, .int .i64 0, .int .i64 0, .int .i64 0, .int .i64 0, .bool false, .int .i64 0, .bool false, .bool false, .slice none 0 0, .bool false, .bool false, .bool false, .bool false, .int .i64 0, .int .i64 0, .int .i64 0, .bool false, .int .i64 0] 45 (0, 0)) h90 gok_none hB95 (fun _ _ hq => hq.tail) (fun b127 w128 hB129 hN q125 h126 => ?_)
          have ho130 := own_below ho98 hN
          have ho131 := own_below ho96 hN
          clear h90 hB95 hN
          refine wpO_end ?_
          refine cut_n ?_
          refine p_alt ?_ ?_
          ·
            refine sA 4 5 (fun b => .pointer (some ⟨b, 0, none⟩)) (.cells #[.int .i64 0, .string (⟨#[]⟩ : ByteArray), .string (⟨#[]⟩ : ByteArray), .string (⟨#[]⟩ : ByteArray), .int .i64 0, .string (⟨#[]⟩ : ByteArray), .string (⟨#[]⟩ : ByteArray), .int .i64 0, .string (⟨#[]⟩ : ByteArray), .int .i64 0, .int .i64 0, .int .i64 0, .int .i64 0, .int .i64 0, .bool false, .int .i64 0, .bool false, .bool false, .slice none 0 0, .bool false, .bool false, .bool false, .bool false, .int .i64 0, .int .i64 0, .int .i64 0, .bool false, .int .i64 0] 45 (0, 0)) h126 gok_none hB129 (fun _ _ hq => hq.tail.tail) (fun b134 w135 hB136 hN q132 h133 => ?_)
            have ho137 := own_below ho130 hN
            have ho138 := own_below ho131 hN
            clear h126 hB129 hN
            refine wpO_end ?_
            refine cut_n ?_
            refine p_alt ?_ ?_
            ·
              refine sW 6 0 0 [(b134, .cells #[.int .i64 q.op, .string q.sender, .string q.ref, .string q.ins.ref, .int .i64 q.ins.kind, .string q.ins.sender, .string q.ins.cpty, .int .i64 q.ins.side, .string q.ins.asset, .int .i64 q.ins.qty, .int .i64 q.ins.amt, .int .i64 q.ins.tday, .int .i64 q.ins.sday, .int .i64 q.ins.prio, .bool q.ins.part, .int .i64 q.ins.minlot, .bool q.ins.hold, .bool q.ins.resv, .slice A82 q.ins.links.length c83, .bool q.am.hasAmt, .bool q.am.hasDay, .bool q.am.hasPrio, .bool q.am.hasPart, .int .i64 q.am.amt, .int .i64 q.am.sday, .int .i64 q.am.prio, .bool q.am.part, .int .i64 q.am.minlot] 45 (0, 0)), (b127, .cells #[.int .i64 0, .string (⟨#[]⟩ : ByteArray), .string (⟨#[]⟩ : ByteArray), .string (⟨#[]⟩ : ByteArray), .int .i64 0, .string (⟨#[]⟩ : ByteArray), .string (⟨#[]⟩ : ByteArray), .int .i64 0, .string (⟨#[]⟩ : ByteArray), .int .i64 0, .int .i64 0, .int .i64 0, .int .i64 0, .int .i64 0, .bool false, .int .i64 0, .bool false, .bool false, .slice none 0 0, .bool false, .bool false, .bool false, .bool false, .int .i64 0, .int .i64 0, .int .i64 0, .bool false, .int .i64 0] 45 (0, 0)), (b8, .cells #[.int .i64 r.op, .string r.sender, .string r.ref, .string r.ins.ref, .int .i64 r.ins.kind, .string r.ins.sender, .string r.ins.cpty, .int .i64 r.ins.side, .string r.ins.asset, .int .i64 r.ins.qty, .int .i64 r.ins.amt, .int .i64 r.ins.tday, .int .i64 r.ins.sday, .int .i64 r.ins.prio, .bool r.ins.part, .int .i64 r.ins.minlot, .bool r.ins.hold, .bool r.ins.resv, .slice B r.ins.links.length d, .bool r.am.hasAmt, .bool r.am.hasDay, .bool r.am.hasPrio, .bool r.am.hasPart, .int .i64 r.am.amt, .int .i64 r.am.sday, .int .i64 r.am.prio, .bool r.am.part, .int .i64 r.am.minlot] 42 (0, 0)), (b3, .cells #[.int .i64 q.op, .string q.sender, .string q.ref, .string q.ins.ref, .int .i64 q.ins.kind, .string q.ins.sender, .string q.ins.cpty, .int .i64 q.ins.side, .string q.ins.asset, .int .i64 q.ins.qty, .int .i64 q.ins.amt, .int .i64 q.ins.tday, .int .i64 q.ins.sday, .int .i64 q.ins.prio, .bool q.ins.part, .int .i64 q.ins.minlot, .bool q.ins.hold, .bool q.ins.resv, .slice A q.ins.links.length c, .bool q.am.hasAmt, .bool q.am.hasDay, .bool q.am.hasPrio, .bool q.am.hasPart, .int .i64 q.am.amt, .int .i64 q.am.sday, .int .i64 q.am.prio, .bool q.am.part, .int .i64 q.am.minlot] 42 (0, 0))] h133 gok_none hB136 (.inr fun _ hq => hq.tail.tail) (fun w141 hB142 hT q139 h140 => ?_)
              clear h133 hB136
              have ho143 := own_turned ho137 hT (by kernel_rfl)
              have ho144 := own_turned ho138 hT (by kernel_rfl)
              clear hT
              refine wpO_end ?_
              refine cut_n ?_
              refine p_alt ?_ ?_
              ·
                refine sW 7 1 0 [(b134, .cells #[.int .i64 q.op, .string q.sender, .string q.ref, .string q.ins.ref, .int .i64 q.ins.kind, .string q.ins.sender, .string q.ins.cpty, .int .i64 q.ins.side, .string q.ins.asset, .int .i64 q.ins.qty, .int .i64 q.ins.amt, .int .i64 q.ins.tday, .int .i64 q.ins.sday, .int .i64 q.ins.prio, .bool q.ins.part, .int .i64 q.ins.minlot, .bool q.ins.hold, .bool q.ins.resv, .slice A82 q.ins.links.length c83, .bool q.am.hasAmt, .bool q.am.hasDay, .bool q.am.hasPrio, .bool q.am.hasPart, .int .i64 q.am.amt, .int .i64 q.am.sday, .int .i64 q.am.prio, .bool q.am.part, .int .i64 q.am.minlot] 45 (0, 0)), (b127, .cells #[.int .i64 r.op, .string r.sender, .string r.ref, .string r.ins.ref, .int .i64 r.ins.kind, .string r.ins.sender, .string r.ins.cpty, .int .i64 r.ins.side, .string r.ins.asset, .int .i64 r.ins.qty, .int .i64 r.ins.amt, .int .i64 r.ins.tday, .int .i64 r.ins.sday, .int .i64 r.ins.prio, .bool r.ins.part, .int .i64 r.ins.minlot, .bool r.ins.hold, .bool r.ins.resv, .slice A91 r.ins.links.length c92, .bool r.am.hasAmt, .bool r.am.hasDay, .bool r.am.hasPrio, .bool r.am.hasPart, .int .i64 r.am.amt, .int .i64 r.am.sday, .int .i64 r.am.prio, .bool r.am.part, .int .i64 r.am.minlot] 45 (0, 0)), (b8, .cells #[.int .i64 r.op, .string r.sender, .string r.ref, .string r.ins.ref, .int .i64 r.ins.kind, .string r.ins.sender, .string r.ins.cpty, .int .i64 r.ins.side, .string r.ins.asset, .int .i64 r.ins.qty, .int .i64 r.ins.amt, .int .i64 r.ins.tday, .int .i64 r.ins.sday, .int .i64 r.ins.prio, .bool r.ins.part, .int .i64 r.ins.minlot, .bool r.ins.hold, .bool r.ins.resv, .slice B r.ins.links.length d, .bool r.am.hasAmt, .bool r.am.hasDay, .bool r.am.hasPrio, .bool r.am.hasPart, .int .i64 r.am.amt, .int .i64 r.am.sday, .int .i64 r.am.prio, .bool r.am.part, .int .i64 r.am.minlot] 42 (0, 0)), (b3, .cells #[.int .i64 q.op, .string q.sender, .string q.ref, .string q.ins.ref, .int .i64 q.ins.kind, .string q.ins.sender, .string q.ins.cpty, .int .i64 q.ins.side, .string q.ins.asset, .int .i64 q.ins.qty, .int .i64 q.ins.amt, .int .i64 q.ins.tday, .int .i64 q.ins.sday, .int .i64 q.ins.prio, .bool q.ins.part, .int .i64 q.ins.minlot, .bool q.ins.hold, .bool q.ins.resv, .slice A q.ins.links.length c, .bool q.am.hasAmt, .bool q.am.hasDay, .bool q.am.hasPrio, .bool q.am.hasPart, .int .i64 q.am.amt, .int .i64 q.am.sday, .int .i64 q.am.prio, .bool q.am.part, .int .i64 q.am.minlot] 42 (0, 0))] h140 gok_none hB142 (.inr fun _ hq => hq.tail.tail) (fun w147 hB148 hT q145 h146 => ?_)
                clear h140 hB142
                have ho149 := own_turned ho143 hT (by kernel_rfl)
                have ho150 := own_turned ho144 hT (by kernel_rfl)
                clear hT
                refine wpO_end ?_
                refine cut_n ?_
                refine p_done ?_
                exact cut_n ⟨A82, c83, A91, c92, b134, b127, h146.keep _ ⟨rfl, rfl, rfl, rfl, rfl, trivial⟩, hB148.sel [1, 0, 2, 3] (by decide) rfl, ho149, ho150⟩
              exact p_none
            exact p_none
          exact p_none
        exact p_none
      refine p_alt ?_ ?_
      ·
        refine sA 4 5 (fun b => .pointer (some ⟨b, 0, none⟩)) (.cells #[.int .i64 0, .string (⟨#[]⟩ : ByteArray), .string (⟨#[]⟩ : ByteArray), .string (⟨#[]⟩ : ByteArray), .int .i64 0, .string (⟨#[]⟩ : ByteArray), .string (⟨#[]⟩ : ByteArray), .int .i64 0, .string (⟨#[]⟩ : ByteArray), .int .i64 0, .int .i64 0, .int .i64 0, .int .i64 0, .int .i64 0, .bool false, .int .i64 0, .bool false, .bool false, .slice none 0 0, .bool false, .bool false, .bool false, .bool false, .int .i64 0, .int .i64 0, .int .i64 0, .bool false, .int .i64 0] 45 (0, 0)) h81 gok_none hB86 (fun _ _ hq => hq.tail) (fun b153 w154 hB155 hN q151 h152 => ?_)
        have ho156 := own_below ho87 hN
        clear h81 hB86 hN
        refine wpO_end ?_
        refine cut_n ?_
        refine p_alt ?_ ?_
        ·
          refine sC 3 23 h152 gok_none (c23 r B d w154 (by omega) (hr2.below hB155.bel)) ?_
          rintro _ w161 ⟨A159, c160, rfl, ho165, hb162⟩
          have ho164 := own_base ho165 hB155.bel.size
          have hB163 := hB155.call hb162
          have ho166 := own_below ho156 hb162
          refine ⟨_, rfl, hB163.tail, fun q157 h158 => ?_⟩
          clear h152 hB155 hb162
          refine wpO_end ?_
          refine cut_n ?_
          refine p_alt ?_ ?_
          ·
            refine sA 5 6 (fun b => .pointer (some ⟨b, 0, none⟩)) (.cells #[.int .i64 0, .string (⟨#[]⟩ : ByteArray), .string (⟨#[]⟩ : ByteArray), .string (⟨#[]⟩ : ByteArray), .int .i64 0, .string (⟨#[]⟩ : ByteArray), .string (⟨#[]⟩ : ByteArray), .int .i64 0, .string (⟨#[]⟩ : ByteArray), .int .i64 0, .int .i64 0, .int .i64 0, .int .i64 0, .int .i64 0, .bool false, .int .i64 0, .bool false, .bool false, .slice none 0 0, .bool false, .bool false, .bool false, .bool false, .int .i64 0, .int .i64 0, .int .i64 0, .bool false, .int .i64 0] 45 (0, 0)) h158 gok_none hB163 (fun _ _ hq => hq.tail.tail) (fun b169 w170 hB171 hN q167 h168 => ?_)
            have ho172 := own_below ho166 hN
            have ho173 := own_below ho164 hN
            clear h158 hB163 hN
            refine wpO_end ?_
            refine cut_n ?_
            refine p_alt ?_ ?_
            ·
              refine sW 6 1 0 [(b169, .cells #[.int .i64 0, .string (⟨#[]⟩ : ByteArray), .string (⟨#[]⟩ : ByteArray), .string (⟨#[]⟩ : ByteArray), .int .i64 0, .string (⟨#[]⟩ : ByteArray), .string (⟨#[]⟩ : ByteArray), .int .i64 0, .string (⟨#[]⟩ : ByteArray), .int .i64 0, .int .i64 0, .int .i64 0, .int .i64 0, .int .i64 0, .bool false, .int .i64 0, .bool false, .bool false, .slice none 0 0, .bool false, .bool false, .bool false, .bool false, .int .i64 0, .int .i64 0, .int .i64 0, .bool false, .int .i64 0] 45 (0, 0)), (b153, .cells #[.int .i64 q.op, .string q.sender, .string q.ref, .string q.ins.ref, .int .i64 q.ins.kind, .string q.ins.sender, .string q.ins.cpty, .int .i64 q.ins.side, .string q.ins.asset, .int .i64 q.ins.qty, .int .i64 q.ins.amt, .int .i64 q.ins.tday, .int .i64 q.ins.sday, .int .i64 q.ins.prio, .bool q.ins.part, .int .i64 q.ins.minlot, .bool q.ins.hold, .bool q.ins.resv, .slice A82 q.ins.links.length c83, .bool q.am.hasAmt, .bool q.am.hasDay, .bool q.am.hasPrio, .bool q.am.hasPart, .int .i64 q.am.amt, .int .i64 q.am.sday, .int .i64 q.am.prio, .bool q.am.part, .int .i64 q.am.minlot] 45 (0, 0)), (b8, .cells #[.int .i64 r.op, .string r.sender, .string r.ref, .string r.ins.ref, .int .i64 r.ins.kind, .string r.ins.sender, .string r.ins.cpty, .int .i64 r.ins.side, .string r.ins.asset, .int .i64 r.ins.qty, .int .i64 r.ins.amt, .int .i64 r.ins.tday, .int .i64 r.ins.sday, .int .i64 r.ins.prio, .bool r.ins.part, .int .i64 r.ins.minlot, .bool r.ins.hold, .bool r.ins.resv, .slice B r.ins.links.length d, .bool r.am.hasAmt, .bool r.am.hasDay, .bool r.am.hasPrio, .bool r.am.hasPart, .int .i64 r.am.amt, .int .i64 r.am.sday, .int .i64 r.am.prio, .bool r.am.part, .int .i64 r.am.minlot] 42 (0, 0)), (b3, .cells #[.int .i64 q.op, .string q.sender, .string q.ref, .string q.ins.ref, .int .i64 q.ins.kind, .string q.ins.sender, .string q.ins.cpty, .int .i64 q.ins.side, .string q.ins.asset, .int .i64 q.ins.qty, .int .i64 q.ins.amt, .int .i64 q.ins.tday, .int .i64 q.ins.sday, .int .i64 q.ins.prio, .bool q.ins.part, .int .i64 q.ins.minlot, .bool q.ins.hold, .bool q.ins.resv, .slice A q.ins.links.length c, .bool q.am.hasAmt, .bool q.am.hasDay, .bool q.am.hasPrio, .bool q.am.hasPart, .int .i64 q.am.amt, .int .i64 q.am.sday, .int .i64 q.am.prio, .bool q.am.part, .int .i64 q.am.minlot] 42 (0, 0))] h168 gok_none hB171 (.inr fun _ hq => hq.tail.tail) (fun w176 hB177 hT q174 h175 => ?_)
              clear h168 hB171
              have ho178 := own_turned ho172 hT (by kernel_rfl)
              have ho179 := own_turned ho173 hT (by kernel_rfl)
              clear hT
              refine wpO_end ?_
              refine cut_n ?_
              refine p_alt ?_ ?_
              ·
                refine sW 7 0 0 [(b169, .cells #[.int .i64 r.op, .string r.sender, .string r.ref, .string r.ins.ref, .int .i64 r.ins.kind, .string r.ins.sender, .string r.ins.cpty, .int .i64 r.ins.side, .string r.ins.asset, .int .i64 r.ins.qty, .int .i64 r.ins.amt, .int .i64 r.ins.tday, .int .i64 r.ins.sday, .int .i64 r.ins.prio, .bool r.ins.part, .int .i64 r.ins.minlot, .bool r.ins.hold, .bool r.ins.resv, .slice A159 r.ins.links.length c160, .bool r.am.hasAmt, .bool r.am.hasDay, .bool r.am.hasPrio, .bool r.am.hasPart, .int .i64 r.am.amt, .int .i64 r.am.sday, .int .i64 r.am.prio, .bool r.am.part, .int .i64 r.am.minlot] 45 (0, 0)), (b153, .cells #[.int .i64 q.op, .string q.sender, .string q.ref, .string q.ins.ref, .int .i64 q.ins.kind, .string q.ins.sender, .string q.ins.cpty, .int .i64 q.ins.side, .string q.ins.asset, .int .i64 q.ins.qty, .int .i64 q.ins.amt, .int .i64 q.ins.tday, .int .i64 q.ins.sday, .int .i64 q.ins.prio, .bool q.ins.part, .int .i64 q.ins.minlot, .bool q.ins.hold, .bool q.ins.resv, .slice A82 q.ins.links.length c83, .bool q.am.hasAmt, .bool q.am.hasDay, .bool q.am.hasPrio, .bool q.am.hasPart, .int .i64 q.am.amt, .int .i64 q.am.sday, .int .i64 q.am.prio, .bool q.am.part, .int .i64 q.am.minlot] 45 (0, 0)), (b8, .cells #[.int .i64 r.op, .string r.sender, .string r.ref, .string r.ins.ref, .int .i64 r.ins.kind, .string r.ins.sender, .string r.ins.cpty, .int .i64 r.ins.side, .string r.ins.asset, .int .i64 r.ins.qty, .int .i64 r.ins.amt, .int .i64 r.ins.tday, .int .i64 r.ins.sday, .int .i64 r.ins.prio, .bool r.ins.part, .int .i64 r.ins.minlot, .bool r.ins.hold, .bool r.ins.resv, .slice B r.ins.links.length d, .bool r.am.hasAmt, .bool r.am.hasDay, .bool r.am.hasPrio, .bool r.am.hasPart, .int .i64 r.am.amt, .int .i64 r.am.sday, .int .i64 r.am.prio, .bool r.am.part, .int .i64 r.am.minlot] 42 (0, 0)), (b3, .cells #[.int .i64 q.op, .string q.sender, .string q.ref, .string q.ins.ref, .int .i64 q.ins.kind, .string q.ins.sender, .string q.ins.cpty, .int .i64 q.ins.side, .string q.ins.asset, .int .i64 q.ins.qty, .int .i64 q.ins.amt, .int .i64 q.ins.tday, .int .i64 q.ins.sday, .int .i64 q.ins.prio, .bool q.ins.part, .int .i64 q.ins.minlot, .bool q.ins.hold, .bool q.ins.resv, .slice A q.ins.links.length c, .bool q.am.hasAmt, .bool q.am.hasDay, .bool q.am.hasPrio, .bool q.am.hasPart, .int .i64 q.am.amt, .int .i64 q.am.sday, .int .i64 q.am.prio, .bool q.am.part, .int .i64 q.am.minlot] 42 (0, 0))] h175 gok_none hB177 (.inr fun _ hq => hq.tail.tail) (fun w182 hB183 hT q180 h181 => ?_)
                clear h175 hB177
                have ho184 := own_turned ho178 hT (by kernel_rfl)
                have ho185 := own_turned ho179 hT (by kernel_rfl)
                clear hT
                refine wpO_end ?_
                refine cut_n ?_
                refine p_done ?_
                exact cut_n ⟨A82, c83, A159, c160, b153, b169, h181.keep _ ⟨rfl, rfl, rfl, rfl, rfl, trivial⟩, hB183.sel [0, 1, 2, 3] (by decide) rfl, ho184, ho185⟩
              exact p_none
            exact p_none
          exact p_none
        refine p_alt ?_ ?_
        ·
          refine sA 5 6 (fun b => .pointer (some ⟨b, 0, none⟩)) (.cells #[.int .i64 0, .string (⟨#[]⟩ : ByteArray), .string (⟨#[]⟩ : ByteArray), .string (⟨#[]⟩ : ByteArray), .int .i64 0, .string (⟨#[]⟩ : ByteArray), .string (⟨#[]⟩ : ByteArray), .int .i64 0, .string (⟨#[]⟩ : ByteArray), .int .i64 0, .int .i64 0, .int .i64 0, .int .i64 0, .int .i64 0, .bool false, .int .i64 0, .bool false, .bool false, .slice none 0 0, .bool false, .bool false, .bool false, .bool false, .int .i64 0, .int .i64 0, .int .i64 0, .bool false, .int .i64 0] 45 (0, 0)) h152 gok_none hB155 (fun _ _ hq => hq.tail.tail) (fun b188 w189 hB190 hN q186 h187 => ?_)
          have ho191 := own_below ho156 hN
          clear h152 hB155 hN
          refine wpO_end ?_
          refine cut_n ?_
          refine p_alt ?_ ?_
          ·
            refine sC 3 23 h187 gok_none (c23 r B d w189 (by omega) (hr2.below hB190.bel)) ?_
            rintro _ w196 ⟨A194, c195, rfl, ho200, hb197⟩
            have ho199 := own_base ho200 hB190.bel.size
            have hB198 := hB190.call hb197
            have ho201 := own_below ho191 hb197
            refine ⟨_, rfl, hB198.tail.tail, fun q192 h193 => ?_⟩
            clear h187 hB190 hb197
            refine wpO_end ?_
            refine cut_n ?_
            refine p_alt ?_ ?_
            ·
              refine sW 6 1 0 [(b188, .cells #[.int .i64 0, .string (⟨#[]⟩ : ByteArray), .string (⟨#[]⟩ : ByteArray), .string (⟨#[]⟩ : ByteArray), .int .i64 0, .string (⟨#[]⟩ : ByteArray), .string (⟨#[]⟩ : ByteArray), .int .i64 0, .string (⟨#[]⟩ : ByteArray), .int .i64 0, .int .i64 0, .int .i64 0, .int .i64 0, .int .i64 0, .bool false, .int .i64 0, .bool false, .bool false, .slice none 0 0, .bool false, .bool false, .bool false, .bool false, .int .i64 0, .int .i64 0, .int .i64 0, .bool false, .int .i64 0] 45 (0, 0)), (b153, .cells #[.int .i64 q.op, .string q.sender, .string q.ref, .string q.ins.ref, .int .i64 q.ins.kind, .string q.ins.sender, .string q.ins.cpty, .int .i64 q.ins.side, .string q.ins.asset, .int .i64 q.ins.qty, .int .i64 q.ins.amt, .int .i64 q.ins.tday, .int .i64 q.ins.sday, .int .i64 q.ins.prio, .bool q.ins.part, .int .i64 q.ins.minlot, .bool q.ins.hold, .bool q.ins.resv, .slice A82 q.ins.links.length c83, .bool q.am.hasAmt, .bool q.am.hasDay, .bool q.am.hasPrio, .bool q.am.hasPart, .int .i64 q.am.amt, .int .i64 q.am.sday, .int .i64 q.am.prio, .bool q.am.part, .int .i64 q.am.minlot] 45 (0, 0)), (b8, .cells #[.int .i64 r.op, .string r.sender, .string r.ref, .string r.ins.ref, .int .i64 r.ins.kind, .string r.ins.sender, .string r.ins.cpty, .int .i64 r.ins.side, .string r.ins.asset, .int .i64 r.ins.qty, .int .i64 r.ins.amt, .int .i64 r.ins.tday, .int .i64 r.ins.sday, .int .i64 r.ins.prio, .bool r.ins.part, .int .i64 r.ins.minlot, .bool r.ins.hold, .bool r.ins.resv, .slice B r.ins.links.length d, .bool r.am.hasAmt, .bool r.am.hasDay, .bool r.am.hasPrio, .bool r.am.hasPart, .int .i64 r.am.amt, .int .i64 r.am.sday, .int .i64 r.am.prio, .bool r.am.part, .int .i64 r.am.minlot] 42 (0, 0)), (b3, .cells #[.int .i64 q.op, .string q.sender, .string q.ref, .string q.ins.ref, .int .i64 q.ins.kind, .string q.ins.sender, .string q.ins.cpty, .int .i64 q.ins.side, .string q.ins.asset, .int .i64 q.ins.qty, .int .i64 q.ins.amt, .int .i64 q.ins.tday, .int .i64 q.ins.sday, .int .i64 q.ins.prio, .bool q.ins.part, .int .i64 q.ins.minlot, .bool q.ins.hold, .bool q.ins.resv, .slice A q.ins.links.length c, .bool q.am.hasAmt, .bool q.am.hasDay, .bool q.am.hasPrio, .bool q.am.hasPart, .int .i64 q.am.amt, .int .i64 q.am.sday, .int .i64 q.am.prio, .bool q.am.part, .int .i64 q.am.minlot] 42 (0, 0))] h193 gok_none hB198 (.inr fun _ hq => hq.tail.tail) (fun w204 hB205 hT q202 h203 => ?_)
              clear h193 hB198
              have ho206 := own_turned ho201 hT (by kernel_rfl)
              have ho207 := own_turned ho199 hT (by kernel_rfl)
              clear hT
              refine wpO_end ?_
              refine cut_n ?_
              refine p_alt ?_ ?_
              ·
                refine sW 7 0 0 [(b188, .cells #[.int .i64 r.op, .string r.sender, .string r.ref, .string r.ins.ref, .int .i64 r.ins.kind, .string r.ins.sender, .string r.ins.cpty, .int .i64 r.ins.side, .string r.ins.asset, .int .i64 r.ins.qty, .int .i64 r.ins.amt, .int .i64 r.ins.tday, .int .i64 r.ins.sday, .int .i64 r.ins.prio, .bool r.ins.part, .int .i64 r.ins.minlot, .bool r.ins.hold, .bool r.ins.resv, .slice A194 r.ins.links.length c195, .bool r.am.hasAmt, .bool r.am.hasDay, .bool r.am.hasPrio, .bool r.am.hasPart, .int .i64 r.am.amt, .int .i64 r.am.sday, .int .i64 r.am.prio, .bool r.am.part, .int .i64 r.am.minlot] 45 (0, 0)), (b153, .cells #[.int .i64 q.op, .string q.sender, .string q.ref, .string q.ins.ref, .int .i64 q.ins.kind, .string q.ins.sender, .string q.ins.cpty, .int .i64 q.ins.side, .string q.ins.asset, .int .i64 q.ins.qty, .int .i64 q.ins.amt, .int .i64 q.ins.tday, .int .i64 q.ins.sday, .int .i64 q.ins.prio, .bool q.ins.part, .int .i64 q.ins.minlot, .bool q.ins.hold, .bool q.ins.resv, .slice A82 q.ins.links.length c83, .bool q.am.hasAmt, .bool q.am.hasDay, .bool q.am.hasPrio, .bool q.am.hasPart, .int .i64 q.am.amt, .int .i64 q.am.sday, .int .i64 q.am.prio, .bool q.am.part, .int .i64 q.am.minlot] 45 (0, 0)), (b8, .cells #[.int .i64 r.op, .string r.sender, .string r.ref, .string r.ins.ref, .int .i64 r.ins.kind, .string r.ins.sender, .string r.ins.cpty, .int .i64 r.ins.side, .string r.ins.asset, .int .i64 r.ins.qty, .int .i64 r.ins.amt, .int .i64 r.ins.tday, .int .i64 r.ins.sday, .int .i64 r.ins.prio, .bool r.ins.part, .int .i64 r.ins.minlot, .bool r.ins.hold, .bool r.ins.resv, .slice B r.ins.links.length d, .bool r.am.hasAmt, .bool r.am.hasDay, .bool r.am.hasPrio, .bool r.am.hasPart, .int .i64 r.am.amt, .int .i64 r.am.sday, .int .i64 r.am.prio, .bool r.am.part, .int .i64 r.am.minlot] 42 (0, 0)), (b3, .cells #[.int .i64 q.op, .string q.sender, .string q.ref, .string q.ins.ref, .int .i64 q.ins.kind, .string q.ins.sender, .string q.ins.cpty, .int .i64 q.ins.side, .string q.ins.asset, .int .i64 q.ins.qty, .int .i64 q.ins.amt, .int .i64 q.ins.tday, .int .i64 q.ins.sday, .int .i64 q.ins.prio, .bool q.ins.part, .int .i64 q.ins.minlot, .bool q.ins.hold, .bool q.ins.resv, .slice A q.ins.links.length c, .bool q.am.hasAmt, .bool q.am.hasDay, .bool q.am.hasPrio, .bool q.am.hasPart, .int .i64 q.am.amt, .int .i64 q.am.sday, .int .i64 q.am.prio, .bool q.am.part, .int .i64 q.am.minlot] 42 (0, 0))] h203 gok_none hB205 (.inr fun _ hq => hq.tail.tail) (fun w210 hB211 hT q208 h209 => ?_)
                clear h203 hB205
                have ho212 := own_turned ho206 hT (by kernel_rfl)
                have ho213 := own_turned ho207 hT (by kernel_rfl)
                clear hT
                refine wpO_end ?_
                refine cut_n ?_
                refine p_done ?_
                exact cut_n ⟨A82, c83, A194, c195, b153, b188, h209.keep _ ⟨rfl, rfl, rfl, rfl, rfl, trivial⟩, hB211.sel [0, 1, 2, 3] (by decide) rfl, ho212, ho213⟩
              exact p_none
            exact p_none
          exact p_none
        exact p_none
      refine p_alt ?_ ?_
      ·
        refine sA 5 6 (fun b => .pointer (some ⟨b, 0, none⟩)) (.cells #[.int .i64 0, .string (⟨#[]⟩ : ByteArray), .string (⟨#[]⟩ : ByteArray), .string (⟨#[]⟩ : ByteArray), .int .i64 0, .string (⟨#[]⟩ : ByteArray), .string (⟨#[]⟩ : ByteArray), .int .i64 0, .string (⟨#[]⟩ : ByteArray), .int .i64 0, .int .i64 0, .int .i64 0, .int .i64 0, .int .i64 0, .bool false, .int .i64 0, .bool false, .bool false, .slice none 0 0, .bool false, .bool false, .bool false, .bool false, .int .i64 0, .int .i64 0, .int .i64 0, .bool false, .int .i64 0] 45 (0, 0)) h81 gok_none hB86 (fun _ _ hq => hq.tail) (fun b216 w217 hB218 hN q214 h215 => ?_)
        have ho219 := own_below ho87 hN
        clear h81 hB86 hN
        refine wpO_end ?_
        refine cut_n ?_
        refine p_alt ?_ ?_
        ·
          refine sC 3 23 h215 gok_none (c23 r B d w217 (by omega) (hr2.below hB218.bel)) ?_
          rintro _ w224 ⟨A222, c223, rfl, ho228, hb225⟩
          have ho227 := own_base ho228 hB218.bel.size
          have hB226 := hB218.call hb225
          have ho229 := own_below ho219 hb225
          refine ⟨_, rfl, hB226.tail, fun q220 h221 => ?_⟩
          clear h215 hB218 hb225
          refine wpO_end ?_
          refine cut_n ?_
          refine p_alt ?_ ?_
          ·
            refine sA 4 5 (fun b => .pointer (some ⟨b, 0, none⟩)) (.cells #[.int .i64 0, .string (⟨#[]⟩ : ByteArray), .string (⟨#[]⟩ : ByteArray), .string (⟨#[]⟩ : ByteArray), .int .i64 0, .string (⟨#[]⟩ : ByteArray), .string (⟨#[]⟩ : ByteArray), .int .i64 0, .string (⟨#[]⟩ : ByteArray), .int .i64 0, .int .i64 0, .int .i64 0, .int .i64 0, .int .i64 0, .bool false, .int .i64 0, .bool false, .bool false, .slice none 0 0, .bool false, .bool false, .bool false, .bool false, .int .i64 0, .int .i64 0, .int .i64 0, .bool false, .int .i64 0] 45 (0, 0)) h221 gok_none hB226 (fun _ _ hq => hq.tail.tail) (fun b232 w233 hB234 hN q230 h231 => ?_)
            have ho235 := own_below ho229 hN
            have ho236 := own_below ho227 hN
            clear h221 hB226 hN
            refine wpO_end ?_
            refine cut_n ?_
            refine p_alt ?_ ?_
            ·
              refine sW 6 0 0 [(b232, .cells #[.int .i64 q.op, .string q.sender, .string q.ref, .string q.ins.ref, .int .i64 q.ins.kind, .string q.ins.sender, .string q.ins.cpty, .int .i64 q.ins.side, .string q.ins.asset, .int .i64 q.ins.qty, .int .i64 q.ins.amt, .int .i64 q.ins.tday, .int .i64 q.ins.sday, .int .i64 q.ins.prio, .bool q.ins.part, .int .i64 q.ins.minlot, .bool q.ins.hold, .bool q.ins.resv, .slice A82 q.ins.links.length c83, .bool q.am.hasAmt, .bool q.am.hasDay, .bool q.am.hasPrio, .bool q.am.hasPart, .int .i64 q.am.amt, .int .i64 q.am.sday, .int .i64 q.am.prio, .bool q.am.part, .int .i64 q.am.minlot] 45 (0, 0)), (b216, .cells #[.int .i64 0, .string (⟨#[]⟩ : ByteArray), .string (⟨#[]⟩ : ByteArray), .string (⟨#[]⟩ : ByteArray), .int .i64 0, .string (⟨#[]⟩ : ByteArray), .string (⟨#[]⟩ : ByteArray), .int .i64 0, .string (⟨#[]⟩ : ByteArray), .int .i64 0, .int .i64 0, .int .i64 0, .int .i64 0, .int .i64 0, .bool false, .int .i64 0, .bool false, .bool false, .slice none 0 0, .bool false, .bool false, .bool false, .bool false, .int .i64 0, .int .i64 0, .int .i64 0, .bool false, .int .i64 0] 45 (0, 0)), (b8, .cells #[.int .i64 r.op, .string r.sender, .string r.ref, .string r.ins.ref, .int .i64 r.ins.kind, .string r.ins.sender, .string r.ins.cpty, .int .i64 r.ins.side, .string r.ins.asset, .int .i64 r.ins.qty, .int .i64 r.ins.amt, .int .i64 r.ins.tday, .int .i64 r.ins.sday, .int .i64 r.ins.prio, .bool r.ins.part, .int .i64 r.ins.minlot, .bool r.ins.hold, .bool r.ins.resv, .slice B r.ins.links.length d, .bool r.am.hasAmt, .bool r.am.hasDay, .bool r.am.hasPrio, .bool r.am.hasPart, .int .i64 r.am.amt, .int .i64 r.am.sday, .int .i64 r.am.prio, .bool r.am.part, .int .i64 r.am.minlot] 42 (0, 0)), (b3, .cells #[.int .i64 q.op, .string q.sender, .string q.ref, .string q.ins.ref, .int .i64 q.ins.kind, .string q.ins.sender, .string q.ins.cpty, .int .i64 q.ins.side, .string q.ins.asset, .int .i64 q.ins.qty, .int .i64 q.ins.amt, .int .i64 q.ins.tday, .int .i64 q.ins.sday, .int .i64 q.ins.prio, .bool q.ins.part, .int .i64 q.ins.minlot, .bool q.ins.hold, .bool q.ins.resv, .slice A q.ins.links.length c, .bool q.am.hasAmt, .bool q.am.hasDay, .bool q.am.hasPrio, .bool q.am.hasPart, .int .i64 q.am.amt, .int .i64 q.am.sday, .int .i64 q.am.prio, .bool q.am.part, .int .i64 q.am.minlot] 42 (0, 0))] h231 gok_none hB234 (.inr fun _ hq => hq.tail.tail) (fun w239 hB240 hT q237 h238 => ?_)
              clear h231 hB234
              have ho241 := own_turned ho235 hT (by kernel_rfl)
              have ho242 := own_turned ho236 hT (by kernel_rfl)
              clear hT
              refine wpO_end ?_
              refine cut_n ?_
              refine p_alt ?_ ?_
              ·
                refine sW 7 1 0 [(b232, .cells #[.int .i64 q.op, .string q.sender, .string q.ref, .string q.ins.ref, .int .i64 q.ins.kind, .string q.ins.sender, .string q.ins.cpty, .int .i64 q.ins.side, .string q.ins.asset, .int .i64 q.ins.qty, .int .i64 q.ins.amt, .int .i64 q.ins.tday, .int .i64 q.ins.sday, .int .i64 q.ins.prio, .bool q.ins.part, .int .i64 q.ins.minlot, .bool q.ins.hold, .bool q.ins.resv, .slice A82 q.ins.links.length c83, .bool q.am.hasAmt, .bool q.am.hasDay, .bool q.am.hasPrio, .bool q.am.hasPart, .int .i64 q.am.amt, .int .i64 q.am.sday, .int .i64 q.am.prio, .bool q.am.part, .int .i64 q.am.minlot] 45 (0, 0)), (b216, .cells #[.int .i64 r.op, .string r.sender, .string r.ref, .string r.ins.ref, .int .i64 r.ins.kind, .string r.ins.sender, .string r.ins.cpty, .int .i64 r.ins.side, .string r.ins.asset, .int .i64 r.ins.qty, .int .i64 r.ins.amt, .int .i64 r.ins.tday, .int .i64 r.ins.sday, .int .i64 r.ins.prio, .bool r.ins.part, .int .i64 r.ins.minlot, .bool r.ins.hold, .bool r.ins.resv, .slice A222 r.ins.links.length c223, .bool r.am.hasAmt, .bool r.am.hasDay, .bool r.am.hasPrio, .bool r.am.hasPart, .int .i64 r.am.amt, .int .i64 r.am.sday, .int .i64 r.am.prio, .bool r.am.part, .int .i64 r.am.minlot] 45 (0, 0)), (b8, .cells #[.int .i64 r.op, .string r.sender, .string r.ref, .string r.ins.ref, .int .i64 r.ins.kind, .string r.ins.sender, .string r.ins.cpty, .int .i64 r.ins.side, .string r.ins.asset, .int .i64 r.ins.qty, .int .i64 r.ins.amt, .int .i64 r.ins.tday, .int .i64 r.ins.sday, .int .i64 r.ins.prio, .bool r.ins.part, .int .i64 r.ins.minlot, .bool r.ins.hold, .bool r.ins.resv, .slice B r.ins.links.length d, .bool r.am.hasAmt, .bool r.am.hasDay, .bool r.am.hasPrio, .bool r.am.hasPart, .int .i64 r.am.amt, .int .i64 r.am.sday, .int .i64 r.am.prio, .bool r.am.part, .int .i64 r.am.minlot] 42 (0, 0)), (b3, .cells #[.int .i64 q.op, .string q.sender, .string q.ref, .string q.ins.ref, .int .i64 q.ins.kind, .string q.ins.sender, .string q.ins.cpty, .int .i64 q.ins.side, .string q.ins.asset, .int .i64 q.ins.qty, .int .i64 q.ins.amt, .int .i64 q.ins.tday, .int .i64 q.ins.sday, .int .i64 q.ins.prio, .bool q.ins.part, .int .i64 q.ins.minlot, .bool q.ins.hold, .bool q.ins.resv, .slice A q.ins.links.length c, .bool q.am.hasAmt, .bool q.am.hasDay, .bool q.am.hasPrio, .bool q.am.hasPart, .int .i64 q.am.amt, .int .i64 q.am.sday, .int .i64 q.am.prio, .bool q.am.part, .int .i64 q.am.minlot] 42 (0, 0))] h238 gok_none hB240 (.inr fun _ hq => hq.tail.tail) (fun w245 hB246 hT q243 h244 => ?_)
                clear h238 hB240
                have ho247 := own_turned ho241 hT (by kernel_rfl)
                have ho248 := own_turned ho242 hT (by kernel_rfl)
                clear hT
                refine wpO_end ?_
                refine cut_n ?_
                refine p_done ?_
                exact cut_n ⟨A82, c83, A222, c223, b232, b216, h244.keep _ ⟨rfl, rfl, rfl, rfl, rfl, trivial⟩, hB246.sel [1, 0, 2, 3] (by decide) rfl, ho247, ho248⟩
              exact p_none
            exact p_none
          exact p_none
        refine p_alt ?_ ?_
        ·
          refine sA 4 5 (fun b => .pointer (some ⟨b, 0, none⟩)) (.cells #[.int .i64 0, .string (⟨#[]⟩ : ByteArray), .string (⟨#[]⟩ : ByteArray), .string (⟨#[]⟩ : ByteArray), .int .i64 0, .string (⟨#[]⟩ : ByteArray), .string (⟨#[]⟩ : ByteArray), .int .i64 0, .string (⟨#[]⟩ : ByteArray), .int .i64 0, .int .i64 0, .int .i64 0, .int .i64 0, .int .i64 0, .bool false, .int .i64 0, .bool false, .bool false, .slice none 0 0, .bool false, .bool false, .bool false, .bool false, .int .i64 0, .int .i64 0, .int .i64 0, .bool false, .int .i64 0] 45 (0, 0)) h215 gok_none hB218 (fun _ _ hq => hq.tail.tail) (fun b251 w252 hB253 hN q249 h250 => ?_)
          have ho254 := own_below ho219 hN
          clear h215 hB218 hN
          refine wpO_end ?_
          refine cut_n ?_
          refine p_alt ?_ ?_
          ·
            refine sC 3 23 h250 gok_none (c23 r B d w252 (by omega) (hr2.below hB253.bel)) ?_
            rintro _ w259 ⟨A257, c258, rfl, ho263, hb260⟩
            have ho262 := own_base ho263 hB253.bel.size
            have hB261 := hB253.call hb260
            have ho264 := own_below ho254 hb260
            refine ⟨_, rfl, hB261.tail.tail, fun q255 h256 => ?_⟩
            clear h250 hB253 hb260
            refine wpO_end ?_
            refine cut_n ?_
            refine p_alt ?_ ?_
            ·
              refine sW 6 0 0 [(b251, .cells #[.int .i64 q.op, .string q.sender, .string q.ref, .string q.ins.ref, .int .i64 q.ins.kind, .string q.ins.sender, .string q.ins.cpty, .int .i64 q.ins.side, .string q.ins.asset, .int .i64 q.ins.qty, .int .i64 q.ins.amt, .int .i64 q.ins.tday, .int .i64 q.ins.sday, .int .i64 q.ins.prio, .bool q.ins.part, .int .i64 q.ins.minlot, .bool q.ins.hold, .bool q.ins.resv, .slice A82 q.ins.links.length c83, .bool q.am.hasAmt, .bool q.am.hasDay, .bool q.am.hasPrio, .bool q.am.hasPart, .int .i64 q.am.amt, .int .i64 q.am.sday, .int .i64 q.am.prio, .bool q.am.part, .int .i64 q.am.minlot] 45 (0, 0)), (b216, .cells #[.int .i64 0, .string (⟨#[]⟩ : ByteArray), .string (⟨#[]⟩ : ByteArray), .string (⟨#[]⟩ : ByteArray), .int .i64 0, .string (⟨#[]⟩ : ByteArray), .string (⟨#[]⟩ : ByteArray), .int .i64 0, .string (⟨#[]⟩ : ByteArray), .int .i64 0, .int .i64 0, .int .i64 0, .int .i64 0, .int .i64 0, .bool false, .int .i64 0, .bool false, .bool false, .slice none 0 0, .bool false, .bool false, .bool false, .bool false, .int .i64 0, .int .i64 0, .int .i64 0, .bool false, .int .i64 0] 45 (0, 0)), (b8, .cells #[.int .i64 r.op, .string r.sender, .string r.ref, .string r.ins.ref, .int .i64 r.ins.kind, .string r.ins.sender, .string r.ins.cpty, .int .i64 r.ins.side, .string r.ins.asset, .int .i64 r.ins.qty, .int .i64 r.ins.amt, .int .i64 r.ins.tday, .int .i64 r.ins.sday, .int .i64 r.ins.prio, .bool r.ins.part, .int .i64 r.ins.minlot, .bool r.ins.hold, .bool r.ins.resv, .slice B r.ins.links.length d, .bool r.am.hasAmt, .bool r.am.hasDay, .bool r.am.hasPrio, .bool r.am.hasPart, .int .i64 r.am.amt, .int .i64 r.am.sday, .int .i64 r.am.prio, .bool r.am.part, .int .i64 r.am.minlot] 42 (0, 0)), (b3, .cells #[.int .i64 q.op, .string q.sender, .string q.ref, .string q.ins.ref, .int .i64 q.ins.kind, .string q.ins.sender, .string q.ins.cpty, .int .i64 q.ins.side, .string q.ins.asset, .int .i64 q.ins.qty, .int .i64 q.ins.amt, .int .i64 q.ins.tday, .int .i64 q.ins.sday, .int .i64 q.ins.prio, .bool q.ins.part, .int .i64 q.ins.minlot, .bool q.ins.hold, .bool q.ins.resv, .slice A q.ins.links.length c, .bool q.am.hasAmt, .bool q.am.hasDay, .bool q.am.hasPrio, .bool q.am.hasPart, .int .i64 q.am.amt, .int .i64 q.am.sday, .int .i64 q.am.prio, .bool q.am.part, .int .i64 q.am.minlot] 42 (0, 0))] h256 gok_none hB261 (.inr fun _ hq => hq.tail.tail) (fun w267 hB268 hT q265 h266 => ?_)
              clear h256 hB261
              have ho269 := own_turned ho264 hT (by kernel_rfl)
              have ho270 := own_turned ho262 hT (by kernel_rfl)
              clear hT
              refine wpO_end ?_
              refine cut_n ?_
              refine p_alt ?_ ?_
              ·
                refine sW 7 1 0 [(b251, .cells #[.int .i64 q.op, .string q.sender, .string q.ref, .string q.ins.ref, .int .i64 q.ins.kind, .string q.ins.sender, .string q.ins.cpty, .int .i64 q.ins.side, .string q.ins.asset, .int .i64 q.ins.qty, .int .i64 q.ins.amt, .int .i64 q.ins.tday, .int .i64 q.ins.sday, .int .i64 q.ins.prio, .bool q.ins.part, .int .i64 q.ins.minlot, .bool q.ins.hold, .bool q.ins.resv, .slice A82 q.ins.links.length c83, .bool q.am.hasAmt, .bool q.am.hasDay, .bool q.am.hasPrio, .bool q.am.hasPart, .int .i64 q.am.amt, .int .i64 q.am.sday, .int .i64 q.am.prio, .bool q.am.part, .int .i64 q.am.minlot] 45 (0, 0)), (b216, .cells #[.int .i64 r.op, .string r.sender, .string r.ref, .string r.ins.ref, .int .i64 r.ins.kind, .string r.ins.sender, .string r.ins.cpty, .int .i64 r.ins.side, .string r.ins.asset, .int .i64 r.ins.qty, .int .i64 r.ins.amt, .int .i64 r.ins.tday, .int .i64 r.ins.sday, .int .i64 r.ins.prio, .bool r.ins.part, .int .i64 r.ins.minlot, .bool r.ins.hold, .bool r.ins.resv, .slice A257 r.ins.links.length c258, .bool r.am.hasAmt, .bool r.am.hasDay, .bool r.am.hasPrio, .bool r.am.hasPart, .int .i64 r.am.amt, .int .i64 r.am.sday, .int .i64 r.am.prio, .bool r.am.part, .int .i64 r.am.minlot] 45 (0, 0)), (b8, .cells #[.int .i64 r.op, .string r.sender, .string r.ref, .string r.ins.ref, .int .i64 r.ins.kind, .string r.ins.sender, .string r.ins.cpty, .int .i64 r.ins.side, .string r.ins.asset, .int .i64 r.ins.qty, .int .i64 r.ins.amt, .int .i64 r.ins.tday, .int .i64 r.ins.sday, .int .i64 r.ins.prio, .bool r.ins.part, .int .i64 r.ins.minlot, .bool r.ins.hold, .bool r.ins.resv, .slice B r.ins.links.length d, .bool r.am.hasAmt, .bool r.am.hasDay, .bool r.am.hasPrio, .bool r.am.hasPart, .int .i64 r.am.amt, .int .i64 r.am.sday, .int .i64 r.am.prio, .bool r.am.part, .int .i64 r.am.minlot] 42 (0, 0)), (b3, .cells #[.int .i64 q.op, .string q.sender, .string q.ref, .string q.ins.ref, .int .i64 q.ins.kind, .string q.ins.sender, .string q.ins.cpty, .int .i64 q.ins.side, .string q.ins.asset, .int .i64 q.ins.qty, .int .i64 q.ins.amt, .int .i64 q.ins.tday, .int .i64 q.ins.sday, .int .i64 q.ins.prio, .bool q.ins.part, .int .i64 q.ins.minlot, .bool q.ins.hold, .bool q.ins.resv, .slice A q.ins.links.length c, .bool q.am.hasAmt, .bool q.am.hasDay, .bool q.am.hasPrio, .bool q.am.hasPart, .int .i64 q.am.amt, .int .i64 q.am.sday, .int .i64 q.am.prio, .bool q.am.part, .int .i64 q.am.minlot] 42 (0, 0))] h266 gok_none hB268 (.inr fun _ hq => hq.tail.tail) (fun w273 hB274 hT q271 h272 => ?_)
                clear h266 hB268
                have ho275 := own_turned ho269 hT (by kernel_rfl)
                have ho276 := own_turned ho270 hT (by kernel_rfl)
                clear hT
                refine wpO_end ?_
                refine cut_n ?_
                refine p_done ?_
                exact cut_n ⟨A82, c83, A257, c258, b251, b216, h272.keep _ ⟨rfl, rfl, rfl, rfl, rfl, trivial⟩, hB274.sel [1, 0, 2, 3] (by decide) rfl, ho275, ho276⟩
              exact p_none
            exact p_none
          exact p_none
        exact p_none
      exact p_none
    refine p_alt ?_ ?_
    ·
      refine sA 4 5 (fun b => .pointer (some ⟨b, 0, none⟩)) (.cells #[.int .i64 0, .string (⟨#[]⟩ : ByteArray), .string (⟨#[]⟩ : ByteArray), .string (⟨#[]⟩ : ByteArray), .int .i64 0, .string (⟨#[]⟩ : ByteArray), .string (⟨#[]⟩ : ByteArray), .int .i64 0, .string (⟨#[]⟩ : ByteArray), .int .i64 0, .int .i64 0, .int .i64 0, .int .i64 0, .int .i64 0, .bool false, .int .i64 0, .bool false, .bool false, .slice none 0 0, .bool false, .bool false, .bool false, .bool false, .int .i64 0, .int .i64 0, .int .i64 0, .bool false, .int .i64 0] 45 (0, 0)) h79 gok_none hD74 (fun _ _ hq => hq.tail) (fun b279 w280 hB281 hN q277 h278 => ?_)
      clear h79 hD74 hN
      refine wpO_end ?_
      refine cut_n ?_
      refine p_alt ?_ ?_
      ·
        refine sC 1 21 h278 gok_none (c23 q A c w280 (by omega) (hr.below hB281.bel)) ?_
        rintro _ w286 ⟨A284, c285, rfl, ho290, hb287⟩
        have ho289 := own_base ho290 hB281.bel.size
        have hB288 := hB281.call hb287
        refine ⟨_, rfl, hB288.tail, fun q282 h283 => ?_⟩
        clear h278 hB281 hb287
        refine wpO_end ?_
        refine cut_n ?_
        refine p_alt ?_ ?_
        ·
          refine sC 3 23 h283 gok_none (c23 r B d w286 (by omega) (hr2.below hB288.bel)) ?_
          rintro _ w295 ⟨A293, c294, rfl, ho299, hb296⟩
          have ho298 := own_base ho299 hB288.bel.size
          have hB297 := hB288.call hb296
          have ho300 := own_below ho289 hb296
          refine ⟨_, rfl, hB297.tail, fun q291 h292 => ?_⟩
          clear h283 hB288 hb296
          refine wpO_end ?_
          refine cut_n ?_
          refine p_alt ?_ ?_
          ·
            refine sA 5 6 (fun b => .pointer (some ⟨b, 0, none⟩)) (.cells #[.int .i64 0, .string (⟨#[]⟩ : ByteArray), .string (⟨#[]⟩ : ByteArray), .string (⟨#[]⟩ : ByteArray), .int .i64 0, .string (⟨#[]⟩ : ByteArray), .string (⟨#[]⟩ : ByteArray), .int .i64 0, .string (⟨#[]⟩ : ByteArray), .int .i64 0, .int .i64 0, .int .i64 0, .int .i64 0, .int .i64 0, .bool false, .int .i64 0, .bool false, .bool false, .slice none 0 0, .bool false, .bool false, .bool false, .bool false, .int .i64 0, .int .i64 0, .int .i64 0, .bool false, .int .i64 0] 45 (0, 0)) h292 gok_none hB297 (fun _ _ hq => hq.tail.tail) (fun b303 w304 hB305 hN q301 h302 => ?_)
            have ho306 := own_below ho300 hN
            have ho307 := own_below ho298 hN
            clear h292 hB297 hN
            refine wpO_end ?_
            refine cut_n ?_
            refine p_alt ?_ ?_
            ·
              refine sW 6 1 0 [(b303, .cells #[.int .i64 0, .string (⟨#[]⟩ : ByteArray), .string (⟨#[]⟩ : ByteArray), .string (⟨#[]⟩ : ByteArray), .int .i64 0, .string (⟨#[]⟩ : ByteArray), .string (⟨#[]⟩ : ByteArray), .int .i64 0, .string (⟨#[]⟩ : ByteArray), .int .i64 0, .int .i64 0, .int .i64 0, .int .i64 0, .int .i64 0, .bool false, .int .i64 0, .bool false, .bool false, .slice none 0 0, .bool false, .bool false, .bool false, .bool false, .int .i64 0, .int .i64 0, .int .i64 0, .bool false, .int .i64 0] 45 (0, 0)), (b279, .cells #[.int .i64 q.op, .string q.sender, .string q.ref, .string q.ins.ref, .int .i64 q.ins.kind, .string q.ins.sender, .string q.ins.cpty, .int .i64 q.ins.side, .string q.ins.asset, .int .i64 q.ins.qty, .int .i64 q.ins.amt, .int .i64 q.ins.tday, .int .i64 q.ins.sday, .int .i64 q.ins.prio, .bool q.ins.part, .int .i64 q.ins.minlot, .bool q.ins.hold, .bool q.ins.resv, .slice A284 q.ins.links.length c285, .bool q.am.hasAmt, .bool q.am.hasDay, .bool q.am.hasPrio, .bool q.am.hasPart, .int .i64 q.am.amt, .int .i64 q.am.sday, .int .i64 q.am.prio, .bool q.am.part, .int .i64 q.am.minlot] 45 (0, 0)), (b8, .cells #[.int .i64 r.op, .string r.sender, .string r.ref, .string r.ins.ref, .int .i64 r.ins.kind, .string r.ins.sender, .string r.ins.cpty, .int .i64 r.ins.side, .string r.ins.asset, .int .i64 r.ins.qty, .int .i64 r.ins.amt, .int .i64 r.ins.tday, .int .i64 r.ins.sday, .int .i64 r.ins.prio, .bool r.ins.part, .int .i64 r.ins.minlot, .bool r.ins.hold, .bool r.ins.resv, .slice B r.ins.links.length d, .bool r.am.hasAmt, .bool r.am.hasDay, .bool r.am.hasPrio, .bool r.am.hasPart, .int .i64 r.am.amt, .int .i64 r.am.sday, .int .i64 r.am.prio, .bool r.am.part, .int .i64 r.am.minlot] 42 (0, 0)), (b3, .cells #[.int .i64 q.op, .string q.sender, .string q.ref, .string q.ins.ref, .int .i64 q.ins.kind, .string q.ins.sender, .string q.ins.cpty, .int .i64 q.ins.side, .string q.ins.asset, .int .i64 q.ins.qty, .int .i64 q.ins.amt, .int .i64 q.ins.tday, .int .i64 q.ins.sday, .int .i64 q.ins.prio, .bool q.ins.part, .int .i64 q.ins.minlot, .bool q.ins.hold, .bool q.ins.resv, .slice A q.ins.links.length c, .bool q.am.hasAmt, .bool q.am.hasDay, .bool q.am.hasPrio, .bool q.am.hasPart, .int .i64 q.am.amt, .int .i64 q.am.sday, .int .i64 q.am.prio, .bool q.am.part, .int .i64 q.am.minlot] 42 (0, 0))] h302 gok_none hB305 (.inr fun _ hq => hq.tail.tail) (fun w310 hB311 hT q308 h309 => ?_)
              clear h302 hB305
              have ho312 := own_turned ho306 hT (by kernel_rfl)
              have ho313 := own_turned ho307 hT (by kernel_rfl)
              clear hT
              refine wpO_end ?_
              refine cut_n ?_
              refine p_alt ?_ ?_
              ·
                refine sW 7 0 0 [(b303, .cells #[.int .i64 r.op, .string r.sender, .string r.ref, .string r.ins.ref, .int .i64 r.ins.kind, .string r.ins.sender, .string r.ins.cpty, .int .i64 r.ins.side, .string r.ins.asset, .int .i64 r.ins.qty, .int .i64 r.ins.amt, .int .i64 r.ins.tday, .int .i64 r.ins.sday, .int .i64 r.ins.prio, .bool r.ins.part, .int .i64 r.ins.minlot, .bool r.ins.hold, .bool r.ins.resv, .slice A293 r.ins.links.length c294, .bool r.am.hasAmt, .bool r.am.hasDay, .bool r.am.hasPrio, .bool r.am.hasPart, .int .i64 r.am.amt, .int .i64 r.am.sday, .int .i64 r.am.prio, .bool r.am.part, .int .i64 r.am.minlot] 45 (0, 0)), (b279, .cells #[.int .i64 q.op, .string q.sender, .string q.ref, .string q.ins.ref, .int .i64 q.ins.kind, .string q.ins.sender, .string q.ins.cpty, .int .i64 q.ins.side, .string q.ins.asset, .int .i64 q.ins.qty, .int .i64 q.ins.amt, .int .i64 q.ins.tday, .int .i64 q.ins.sday, .int .i64 q.ins.prio, .bool q.ins.part, .int .i64 q.ins.minlot, .bool q.ins.hold, .bool q.ins.resv, .slice A284 q.ins.links.length c285, .bool q.am.hasAmt, .bool q.am.hasDay, .bool q.am.hasPrio, .bool q.am.hasPart, .int .i64 q.am.amt, .int .i64 q.am.sday, .int .i64 q.am.prio, .bool q.am.part, .int .i64 q.am.minlot] 45 (0, 0)), (b8, .cells #[.int .i64 r.op, .string r.sender, .string r.ref, .string r.ins.ref, .int .i64 r.ins.kind, .string r.ins.sender, .string r.ins.cpty, .int .i64 r.ins.side, .string r.ins.asset, .int .i64 r.ins.qty, .int .i64 r.ins.amt, .int .i64 r.ins.tday, .int .i64 r.ins.sday, .int .i64 r.ins.prio, .bool r.ins.part, .int .i64 r.ins.minlot, .bool r.ins.hold, .bool r.ins.resv, .slice B r.ins.links.length d, .bool r.am.hasAmt, .bool r.am.hasDay, .bool r.am.hasPrio, .bool r.am.hasPart, .int .i64 r.am.amt, .int .i64 r.am.sday, .int .i64 r.am.prio, .bool r.am.part, .int .i64 r.am.minlot] 42 (0, 0)), (b3, .cells #[.int .i64 q.op, .string q.sender, .string q.ref, .string q.ins.ref, .int .i64 q.ins.kind, .string q.ins.sender, .string q.ins.cpty, .int .i64 q.ins.side, .string q.ins.asset, .int .i64 q.ins.qty, .int .i64 q.ins.amt, .int .i64 q.ins.tday, .int .i64 q.ins.sday, .int .i64 q.ins.prio, .bool q.ins.part, .int .i64 q.ins.minlot, .bool q.ins.hold, .bool q.ins.resv, .slice A q.ins.links.length c, .bool q.am.hasAmt, .bool q.am.hasDay, .bool q.am.hasPrio, .bool q.am.hasPart, .int .i64 q.am.amt, .int .i64 q.am.sday, .int .i64 q.am.prio, .bool q.am.part, .int .i64 q.am.minlot] 42 (0, 0))] h309 gok_none hB311 (.inr fun _ hq => hq.tail.tail) (fun w316 hB317 hT q314 h315 => ?_)
                clear h309 hB311
                have ho318 := own_turned ho312 hT (by kernel_rfl)
                have ho319 := own_turned ho313 hT (by kernel_rfl)
                clear hT
                refine wpO_end ?_
                refine cut_n ?_
                refine p_done ?_
                exact cut_n ⟨A284, c285, A293, c294, b279, b303, h315.keep _ ⟨rfl, rfl, rfl, rfl, rfl, trivial⟩, hB317.sel [0, 1, 2, 3] (by decide) rfl, ho318, ho319⟩
              exact p_none
            exact p_none
          exact p_none
        refine p_alt ?_ ?_
        ·
          refine sA 5 6 (fun b => .pointer (some ⟨b, 0, none⟩)) (.cells #[.int .i64 0, .string (⟨#[]⟩ : ByteArray), .string (⟨#[]⟩ : ByteArray), .string (⟨#[]⟩ : ByteArray), .int .i64 0, .string (⟨#[]⟩ : ByteArray), .string (⟨#[]⟩ : ByteArray), .int .i64 0, .string (⟨#[]⟩ : ByteArray), .int .i64 0, .int .i64 0, .int .i64 0, .int .i64 0, .int .i64 0, .bool false, .int .i64 0, .bool false, .bool false, .slice none 0 0, .bool false, .bool false, .bool false, .bool false, .int .i64 0, .int .i64 0, .int .i64 0, .bool false, .int .i64 0] 45 (0, 0)) h283 gok_none hB288 (fun _ _ hq => hq.tail.tail) (fun b322 w323 hB324 hN q320 h321 => ?_)
          have ho325 := own_below ho289 hN
          clear h283 hB288 hN
          refine wpO_end ?_
          refine cut_n ?_
          refine p_alt ?_ ?_
          ·
            refine sC 3 23 h321 gok_none (c23 r B d w323 (by omega) (hr2.below hB324.bel)) ?_
            rintro _ w330 ⟨A328, c329, rfl, ho334, hb331⟩
            have ho333 := own_base ho334 hB324.bel.size
            have hB332 := hB324.call hb331
            have ho335 := own_below ho325 hb331
            refine ⟨_, rfl, hB332.tail.tail, fun q326 h327 => ?_⟩
            clear h321 hB324 hb331
            refine wpO_end ?_
            refine cut_n ?_
            refine p_alt ?_ ?_
            ·
              refine sW 6 1 0 [(b322, .cells #[.int .i64 0, .string (⟨#[]⟩ : ByteArray), .string (⟨#[]⟩ : ByteArray), .string (⟨#[]⟩ : ByteArray), .int .i64 0, .string (⟨#[]⟩ : ByteArray), .string (⟨#[]⟩ : ByteArray), .int .i64 0, .string (⟨#[]⟩ : ByteArray), .int .i64 0, .int .i64 0, .int .i64 0, .int .i64 0, .int .i64 0, .bool false, .int .i64 0, .bool false, .bool false, .slice none 0 0, .bool false, .bool false, .bool false, .bool false, .int .i64 0, .int .i64 0, .int .i64 0, .bool false, .int .i64 0] 45 (0, 0)), (b279, .cells #[.int .i64 q.op, .string q.sender, .string q.ref, .string q.ins.ref, .int .i64 q.ins.kind, .string q.ins.sender, .string q.ins.cpty, .int .i64 q.ins.side, .string q.ins.asset, .int .i64 q.ins.qty, .int .i64 q.ins.amt, .int .i64 q.ins.tday, .int .i64 q.ins.sday, .int .i64 q.ins.prio, .bool q.ins.part, .int .i64 q.ins.minlot, .bool q.ins.hold, .bool q.ins.resv, .slice A284 q.ins.links.length c285, .bool q.am.hasAmt, .bool q.am.hasDay, .bool q.am.hasPrio, .bool q.am.hasPart, .int .i64 q.am.amt, .int .i64 q.am.sday, .int .i64 q.am.prio, .bool q.am.part, .int .i64 q.am.minlot] 45 (0, 0)), (b8, .cells #[.int .i64 r.op, .string r.sender, .string r.ref, .string r.ins.ref, .int .i64 r.ins.kind, .string r.ins.sender, .string r.ins.cpty, .int .i64 r.ins.side, .string r.ins.asset, .int .i64 r.ins.qty, .int .i64 r.ins.amt, .int .i64 r.ins.tday, .int .i64 r.ins.sday, .int .i64 r.ins.prio, .bool r.ins.part, .int .i64 r.ins.minlot, .bool r.ins.hold, .bool r.ins.resv, .slice B r.ins.links.length d, .bool r.am.hasAmt, .bool r.am.hasDay, .bool r.am.hasPrio, .bool r.am.hasPart, .int .i64 r.am.amt, .int .i64 r.am.sday, .int .i64 r.am.prio, .bool r.am.part, .int .i64 r.am.minlot] 42 (0, 0)), (b3, .cells #[.int .i64 q.op, .string q.sender, .string q.ref, .string q.ins.ref, .int .i64 q.ins.kind, .string q.ins.sender, .string q.ins.cpty, .int .i64 q.ins.side, .string q.ins.asset, .int .i64 q.ins.qty, .int .i64 q.ins.amt, .int .i64 q.ins.tday, .int .i64 q.ins.sday, .int .i64 q.ins.prio, .bool q.ins.part, .int .i64 q.ins.minlot, .bool q.ins.hold, .bool q.ins.resv, .slice A q.ins.links.length c, .bool q.am.hasAmt, .bool q.am.hasDay, .bool q.am.hasPrio, .bool q.am.hasPart, .int .i64 q.am.amt, .int .i64 q.am.sday, .int .i64 q.am.prio, .bool q.am.part, .int .i64 q.am.minlot] 42 (0, 0))] h327 gok_none hB332 (.inr fun _ hq => hq.tail.tail) (fun w338 hB339 hT q336 h337 => ?_)
              clear h327 hB332
              have ho340 := own_turned ho335 hT (by kernel_rfl)
              have ho341 := own_turned ho333 hT (by kernel_rfl)
              clear hT
              refine wpO_end ?_
              refine cut_n ?_
              refine p_alt ?_ ?_
              ·
                refine sW 7 0 0 [(b322, .cells #[.int .i64 r.op, .string r.sender, .string r.ref, .string r.ins.ref, .int .i64 r.ins.kind, .string r.ins.sender, .string r.ins.cpty, .int .i64 r.ins.side, .string r.ins.asset, .int .i64 r.ins.qty, .int .i64 r.ins.amt, .int .i64 r.ins.tday, .int .i64 r.ins.sday, .int .i64 r.ins.prio, .bool r.ins.part, .int .i64 r.ins.minlot, .bool r.ins.hold, .bool r.ins.resv, .slice A328 r.ins.links.length c329, .bool r.am.hasAmt, .bool r.am.hasDay, .bool r.am.hasPrio, .bool r.am.hasPart, .int .i64 r.am.amt, .int .i64 r.am.sday, .int .i64 r.am.prio, .bool r.am.part, .int .i64 r.am.minlot] 45 (0, 0)), (b279, .cells #[.int .i64 q.op, .string q.sender, .string q.ref, .string q.ins.ref, .int .i64 q.ins.kind, .string q.ins.sender, .string q.ins.cpty, .int .i64 q.ins.side, .string q.ins.asset, .int .i64 q.ins.qty, .int .i64 q.ins.amt, .int .i64 q.ins.tday, .int .i64 q.ins.sday, .int .i64 q.ins.prio, .bool q.ins.part, .int .i64 q.ins.minlot, .bool q.ins.hold, .bool q.ins.resv, .slice A284 q.ins.links.length c285, .bool q.am.hasAmt, .bool q.am.hasDay, .bool q.am.hasPrio, .bool q.am.hasPart, .int .i64 q.am.amt, .int .i64 q.am.sday, .int .i64 q.am.prio, .bool q.am.part, .int .i64 q.am.minlot] 45 (0, 0)), (b8, .cells #[.int .i64 r.op, .string r.sender, .string r.ref, .string r.ins.ref, .int .i64 r.ins.kind, .string r.ins.sender, .string r.ins.cpty, .int .i64 r.ins.side, .string r.ins.asset, .int .i64 r.ins.qty, .int .i64 r.ins.amt, .int .i64 r.ins.tday, .int .i64 r.ins.sday, .int .i64 r.ins.prio, .bool r.ins.part, .int .i64 r.ins.minlot, .bool r.ins.hold, .bool r.ins.resv, .slice B r.ins.links.length d, .bool r.am.hasAmt, .bool r.am.hasDay, .bool r.am.hasPrio, .bool r.am.hasPart, .int .i64 r.am.amt, .int .i64 r.am.sday, .int .i64 r.am.prio, .bool r.am.part, .int .i64 r.am.minlot] 42 (0, 0)), (b3, .cells #[.int .i64 q.op, .string q.sender, .string q.ref, .string q.ins.ref, .int .i64 q.ins.kind, .string q.ins.sender, .string q.ins.cpty, .int .i64 q.ins.side, .string q.ins.asset, .int .i64 q.ins.qty, .int .i64 q.ins.amt, .int .i64 q.ins.tday, .int .i64 q.ins.sday, .int .i64 q.ins.prio, .bool q.ins.part, .int .i64 q.ins.minlot, .bool q.ins.hold, .bool q.ins.resv, .slice A q.ins.links.length c, .bool q.am.hasAmt, .bool q.am.hasDay, .bool q.am.hasPrio, .bool q.am.hasPart, .int .i64 q.am.amt, .int .i64 q.am.sday, .int .i64 q.am.prio, .bool q.am.part, .int .i64 q.am.minlot] 42 (0, 0))] h337 gok_none hB339 (.inr fun _ hq => hq.tail.tail) (fun w344 hB345 hT q342 h343 => ?_)
                clear h337 hB339
                have ho346 := own_turned ho340 hT (by kernel_rfl)
                have ho347 := own_turned ho341 hT (by kernel_rfl)
                clear hT
                refine wpO_end ?_
                refine cut_n ?_
                refine p_done ?_
                exact cut_n ⟨A284, c285, A328, c329, b279, b322, h343.keep _ ⟨rfl, rfl, rfl, rfl, rfl, trivial⟩, hB345.sel [0, 1, 2, 3] (by decide) rfl, ho346, ho347⟩
              exact p_none
            exact p_none
          exact p_none
        exact p_none
      refine p_alt ?_ ?_
      ·
        refine sA 5 6 (fun b => .pointer (some ⟨b, 0, none⟩)) (.cells #[.int .i64 0, .string (⟨#[]⟩ : ByteArray), .string (⟨#[]⟩ : ByteArray), .string (⟨#[]⟩ : ByteArray), .int .i64 0, .string (⟨#[]⟩ : ByteArray), .string (⟨#[]⟩ : ByteArray), .int .i64 0, .string (⟨#[]⟩ : ByteArray), .int .i64 0, .int .i64 0, .int .i64 0, .int .i64 0, .int .i64 0, .bool false, .int .i64 0, .bool false, .bool false, .slice none 0 0, .bool false, .bool false, .bool false, .bool false, .int .i64 0, .int .i64 0, .int .i64 0, .bool false, .int .i64 0] 45 (0, 0)) h278 gok_none hB281 (fun _ _ hq => hq.tail.tail) (fun b350 w351 hB352 hN q348 h349 => ?_)
        clear h278 hB281 hN
        refine wpO_end ?_
        refine cut_n ?_
        refine p_alt ?_ ?_
        ·
          refine sC 1 21 h349 gok_none (c23 q A c w351 (by omega) (hr.below hB352.bel)) ?_
          rintro _ w357 ⟨A355, c356, rfl, ho361, hb358⟩
          have ho360 := own_base ho361 hB352.bel.size
          have hB359 := hB352.call hb358
          refine ⟨_, rfl, hB359.tail.tail, fun q353 h354 => ?_⟩
          clear h349 hB352 hb358
          refine wpO_end ?_
          refine cut_n ?_
          refine p_alt ?_ ?_
          ·
            refine sC 3 23 h354 gok_none (c23 r B d w357 (by omega) (hr2.below hB359.bel)) ?_
            rintro _ w366 ⟨A364, c365, rfl, ho370, hb367⟩
            have ho369 := own_base ho370 hB359.bel.size
            have hB368 := hB359.call hb367
            have ho371 := own_below ho360 hb367
            refine ⟨_, rfl, hB368.tail.tail, fun q362 h363 => ?_⟩
            clear h354 hB359 hb367
            refine wpO_end ?_
            refine cut_n ?_
            refine p_alt ?_ ?_
            ·
              refine sW 6 1 0 [(b350, .cells #[.int .i64 0, .string (⟨#[]⟩ : ByteArray), .string (⟨#[]⟩ : ByteArray), .string (⟨#[]⟩ : ByteArray), .int .i64 0, .string (⟨#[]⟩ : ByteArray), .string (⟨#[]⟩ : ByteArray), .int .i64 0, .string (⟨#[]⟩ : ByteArray), .int .i64 0, .int .i64 0, .int .i64 0, .int .i64 0, .int .i64 0, .bool false, .int .i64 0, .bool false, .bool false, .slice none 0 0, .bool false, .bool false, .bool false, .bool false, .int .i64 0, .int .i64 0, .int .i64 0, .bool false, .int .i64 0] 45 (0, 0)), (b279, .cells #[.int .i64 q.op, .string q.sender, .string q.ref, .string q.ins.ref, .int .i64 q.ins.kind, .string q.ins.sender, .string q.ins.cpty, .int .i64 q.ins.side, .string q.ins.asset, .int .i64 q.ins.qty, .int .i64 q.ins.amt, .int .i64 q.ins.tday, .int .i64 q.ins.sday, .int .i64 q.ins.prio, .bool q.ins.part, .int .i64 q.ins.minlot, .bool q.ins.hold, .bool q.ins.resv, .slice A355 q.ins.links.length c356, .bool q.am.hasAmt, .bool q.am.hasDay, .bool q.am.hasPrio, .bool q.am.hasPart, .int .i64 q.am.amt, .int .i64 q.am.sday, .int .i64 q.am.prio, .bool q.am.part, .int .i64 q.am.minlot] 45 (0, 0)), (b8, .cells #[.int .i64 r.op, .string r.sender, .string r.ref, .string r.ins.ref, .int .i64 r.ins.kind, .string r.ins.sender, .string r.ins.cpty, .int .i64 r.ins.side, .string r.ins.asset, .int .i64 r.ins.qty, .int .i64 r.ins.amt, .int .i64 r.ins.tday, .int .i64 r.ins.sday, .int .i64 r.ins.prio, .bool r.ins.part, .int .i64 r.ins.minlot, .bool r.ins.hold, .bool r.ins.resv, .slice B r.ins.links.length d, .bool r.am.hasAmt, .bool r.am.hasDay, .bool r.am.hasPrio, .bool r.am.hasPart, .int .i64 r.am.amt, .int .i64 r.am.sday, .int .i64 r.am.prio, .bool r.am.part, .int .i64 r.am.minlot] 42 (0, 0)), (b3, .cells #[.int .i64 q.op, .string q.sender, .string q.ref, .string q.ins.ref, .int .i64 q.ins.kind, .string q.ins.sender, .string q.ins.cpty, .int .i64 q.ins.side, .string q.ins.asset, .int .i64 q.ins.qty, .int .i64 q.ins.amt, .int .i64 q.ins.tday, .int .i64 q.ins.sday, .int .i64 q.ins.prio, .bool q.ins.part, .int .i64 q.ins.minlot, .bool q.ins.hold, .bool q.ins.resv, .slice A q.ins.links.length c, .bool q.am.hasAmt, .bool q.am.hasDay, .bool q.am.hasPrio, .bool q.am.hasPart, .int .i64 q.am.amt, .int .i64 q.am.sday, .int .i64 q.am.prio, .bool q.am.part, .int .i64 q.am.minlot] 42 (0, 0))] h363 gok_none hB368 (.inr fun _ hq => hq.tail.tail) (fun w374 hB375 hT q372 h373 => ?_)
              clear h363 hB368
              have ho376 := own_turned ho371 hT (by kernel_rfl)
              have ho377 := own_turned ho369 hT (by kernel_rfl)
              clear hT
              refine wpO_end ?_
              refine cut_n ?_
              refine p_alt ?_ ?_
              ·
                refine sW 7 0 0 [(b350, .cells #[.int .i64 r.op, .string r.sender, .string r.ref, .string r.ins.ref, .int .i64 r.ins.kind, .string r.ins.sender, .string r.ins.cpty, .int .i64 r.ins.side, .string r.ins.asset, .int .i64 r.ins.qty, .int .i64 r.ins.amt, .int .i64 r.ins.tday, .int .i64 r.ins.sday, .int .i64 r.ins.prio, .bool r.ins.part, .int .i64 r.ins.minlot, .bool r.ins.hold, .bool r.ins.resv, .slice A364 r.ins.links.length c365, .bool r.am.hasAmt, .bool r.am.hasDay, .bool r.am.hasPrio, .bool r.am.hasPart, .int .i64 r.am.amt, .int .i64 r.am.sday, .int .i64 r.am.prio, .bool r.am.part, .int .i64 r.am.minlot] 45 (0, 0)), (b279, .cells #[.int .i64 q.op, .string q.sender, .string q.ref, .string q.ins.ref, .int .i64 q.ins.kind, .string q.ins.sender, .string q.ins.cpty, .int .i64 q.ins.side, .string q.ins.asset, .int .i64 q.ins.qty, .int .i64 q.ins.amt, .int .i64 q.ins.tday, .int .i64 q.ins.sday, .int .i64 q.ins.prio, .bool q.ins.part, .int .i64 q.ins.minlot, .bool q.ins.hold, .bool q.ins.resv, .slice A355 q.ins.links.length c356, .bool q.am.hasAmt, .bool q.am.hasDay, .bool q.am.hasPrio, .bool q.am.hasPart, .int .i64 q.am.amt, .int .i64 q.am.sday, .int .i64 q.am.prio, .bool q.am.part, .int .i64 q.am.minlot] 45 (0, 0)), (b8, .cells #[.int .i64 r.op, .string r.sender, .string r.ref, .string r.ins.ref, .int .i64 r.ins.kind, .string r.ins.sender, .string r.ins.cpty, .int .i64 r.ins.side, .string r.ins.asset, .int .i64 r.ins.qty, .int .i64 r.ins.amt, .int .i64 r.ins.tday, .int .i64 r.ins.sday, .int .i64 r.ins.prio, .bool r.ins.part, .int .i64 r.ins.minlot, .bool r.ins.hold, .bool r.ins.resv, .slice B r.ins.links.length d, .bool r.am.hasAmt, .bool r.am.hasDay, .bool r.am.hasPrio, .bool r.am.hasPart, .int .i64 r.am.amt, .int .i64 r.am.sday, .int .i64 r.am.prio, .bool r.am.part, .int .i64 r.am.minlot] 42 (0, 0)), (b3, .cells #[.int .i64 q.op, .string q.sender, .string q.ref, .string q.ins.ref, .int .i64 q.ins.kind, .string q.ins.sender, .string q.ins.cpty, .int .i64 q.ins.side, .string q.ins.asset, .int .i64 q.ins.qty, .int .i64 q.ins.amt, .int .i64 q.ins.tday, .int .i64 q.ins.sday, .int .i64 q.ins.prio, .bool q.ins.part, .int .i64 q.ins.minlot, .bool q.ins.hold, .bool q.ins.resv, .slice A q.ins.links.length c, .bool q.am.hasAmt, .bool q.am.hasDay, .bool q.am.hasPrio, .bool q.am.hasPart, .int .i64 q.am.amt, .int .i64 q.am.sday, .int .i64 q.am.prio, .bool q.am.part, .int .i64 q.am.minlot] 42 (0, 0))] h373 gok_none hB375 (.inr fun _ hq => hq.tail.tail) (fun w380 hB381 hT q378 h379 => ?_)
                clear h373 hB375
                have ho382 := own_turned ho376 hT (by kernel_rfl)
                have ho383 := own_turned ho377 hT (by kernel_rfl)
                clear hT
                refine wpO_end ?_
                refine cut_n ?_
                refine p_done ?_
                exact cut_n ⟨A355, c356, A364, c365, b279, b350, h379.keep _ ⟨rfl, rfl, rfl, rfl, rfl, trivial⟩, hB381.sel [0, 1, 2, 3] (by decide) rfl, ho382, ho383⟩
              exact p_none
            exact p_none
          exact p_none
        exact p_none
      exact p_none
    refine p_alt ?_ ?_
    ·
      refine sA 5 6 (fun b => .pointer (some ⟨b, 0, none⟩)) (.cells #[.int .i64 0, .string (⟨#[]⟩ : ByteArray), .string (⟨#[]⟩ : ByteArray), .string (⟨#[]⟩ : ByteArray), .int .i64 0, .string (⟨#[]⟩ : ByteArray), .string (⟨#[]⟩ : ByteArray), .int .i64 0, .string (⟨#[]⟩ : ByteArray), .int .i64 0, .int .i64 0, .int .i64 0, .int .i64 0, .int .i64 0, .bool false, .int .i64 0, .bool false, .bool false, .slice none 0 0, .bool false, .bool false, .bool false, .bool false, .int .i64 0, .int .i64 0, .int .i64 0, .bool false, .int .i64 0] 45 (0, 0)) h79 gok_none hD74 (fun _ _ hq => hq.tail) (fun b386 w387 hB388 hN q384 h385 => ?_)
      clear h79 hD74 hN
      refine wpO_end ?_
      refine cut_n ?_
      refine p_alt ?_ ?_
      ·
        refine sC 1 21 h385 gok_none (c23 q A c w387 (by omega) (hr.below hB388.bel)) ?_
        rintro _ w393 ⟨A391, c392, rfl, ho397, hb394⟩
        have ho396 := own_base ho397 hB388.bel.size
        have hB395 := hB388.call hb394
        refine ⟨_, rfl, hB395.tail, fun q389 h390 => ?_⟩
        clear h385 hB388 hb394
        refine wpO_end ?_
        refine cut_n ?_
        refine p_alt ?_ ?_
        ·
          refine sC 3 23 h390 gok_none (c23 r B d w393 (by omega) (hr2.below hB395.bel)) ?_
          rintro _ w402 ⟨A400, c401, rfl, ho406, hb403⟩
          have ho405 := own_base ho406 hB395.bel.size
          have hB404 := hB395.call hb403
          have ho407 := own_below ho396 hb403
          refine ⟨_, rfl, hB404.tail, fun q398 h399 => ?_⟩
          clear h390 hB395 hb403
          refine wpO_end ?_
          refine cut_n ?_
          refine p_alt ?_ ?_
          ·
            refine sA 4 5 (fun b => .pointer (some ⟨b, 0, none⟩)) (.cells #[.int .i64 0, .string (⟨#[]⟩ : ByteArray), .string (⟨#[]⟩ : ByteArray), .string (⟨#[]⟩ : ByteArray), .int .i64 0, .string (⟨#[]⟩ : ByteArray), .string (⟨#[]⟩ : ByteArray), .int .i64 0, .string (⟨#[]⟩ : ByteArray), .int .i64 0, .int .i64 0, .int .i64 0, .int .i64 0, .int .i64 0, .bool false, .int .i64 0, .bool false, .bool false, .slice none 0 0, .bool false, .bool false, .bool false, .bool false, .int .i64 0, .int .i64 0, .int .i64 0, .bool false, .int .i64 0] 45 (0, 0)) h399 gok_none hB404 (fun _ _ hq => hq.tail.tail) (fun b410 w411 hB412 hN q408 h409 => ?_)
            have ho413 := own_below ho407 hN
            have ho414 := own_below ho405 hN
            clear h399 hB404 hN
            refine wpO_end ?_
            refine cut_n ?_
            refine p_alt ?_ ?_
            ·
              refine sW 6 0 0 [(b410, .cells #[.int .i64 q.op, .string q.sender, .string q.ref, .string q.ins.ref, .int .i64 q.ins.kind, .string q.ins.sender, .string q.ins.cpty, .int .i64 q.ins.side, .string q.ins.asset, .int .i64 q.ins.qty, .int .i64 q.ins.amt, .int .i64 q.ins.tday, .int .i64 q.ins.sday, .int .i64 q.ins.prio, .bool q.ins.part, .int .i64 q.ins.minlot, .bool q.ins.hold, .bool q.ins.resv, .slice A391 q.ins.links.length c392, .bool q.am.hasAmt, .bool q.am.hasDay, .bool q.am.hasPrio, .bool q.am.hasPart, .int .i64 q.am.amt, .int .i64 q.am.sday, .int .i64 q.am.prio, .bool q.am.part, .int .i64 q.am.minlot] 45 (0, 0)), (b386, .cells #[.int .i64 0, .string (⟨#[]⟩ : ByteArray), .string (⟨#[]⟩ : ByteArray), .string (⟨#[]⟩ : ByteArray), .int .i64 0, .string (⟨#[]⟩ : ByteArray), .string (⟨#[]⟩ : ByteArray), .int .i64 0, .string (⟨#[]⟩ : ByteArray), .int .i64 0, .int .i64 0, .int .i64 0, .int .i64 0, .int .i64 0, .bool false, .int .i64 0, .bool false, .bool false, .slice none 0 0, .bool false, .bool false, .bool false, .bool false, .int .i64 0, .int .i64 0, .int .i64 0, .bool false, .int .i64 0] 45 (0, 0)), (b8, .cells #[.int .i64 r.op, .string r.sender, .string r.ref, .string r.ins.ref, .int .i64 r.ins.kind, .string r.ins.sender, .string r.ins.cpty, .int .i64 r.ins.side, .string r.ins.asset, .int .i64 r.ins.qty, .int .i64 r.ins.amt, .int .i64 r.ins.tday, .int .i64 r.ins.sday, .int .i64 r.ins.prio, .bool r.ins.part, .int .i64 r.ins.minlot, .bool r.ins.hold, .bool r.ins.resv, .slice B r.ins.links.length d, .bool r.am.hasAmt, .bool r.am.hasDay, .bool r.am.hasPrio, .bool r.am.hasPart, .int .i64 r.am.amt, .int .i64 r.am.sday, .int .i64 r.am.prio, .bool r.am.part, .int .i64 r.am.minlot] 42 (0, 0)), (b3, .cells #[.int .i64 q.op, .string q.sender, .string q.ref, .string q.ins.ref, .int .i64 q.ins.kind, .string q.ins.sender, .string q.ins.cpty, .int .i64 q.ins.side, .string q.ins.asset, .int .i64 q.ins.qty, .int .i64 q.ins.amt, .int .i64 q.ins.tday, .int .i64 q.ins.sday, .int .i64 q.ins.prio, .bool q.ins.part, .int .i64 q.ins.minlot, .bool q.ins.hold, .bool q.ins.resv, .slice A q.ins.links.length c, .bool q.am.hasAmt, .bool q.am.hasDay, .bool q.am.hasPrio, .bool q.am.hasPart, .int .i64 q.am.amt, .int .i64 q.am.sday, .int .i64 q.am.prio, .bool q.am.part, .int .i64 q.am.minlot] 42 (0, 0))] h409 gok_none hB412 (.inr fun _ hq => hq.tail.tail) (fun w417 hB418 hT q415 h416 => ?_)
              clear h409 hB412
              have ho419 := own_turned ho413 hT (by kernel_rfl)
              have ho420 := own_turned ho414 hT (by kernel_rfl)
              clear hT
              refine wpO_end ?_
              refine cut_n ?_
              refine p_alt ?_ ?_
              ·
                refine sW 7 1 0 [(b410, .cells #[.int .i64 q.op, .string q.sender, .string q.ref, .string q.ins.ref, .int .i64 q.ins.kind, .string q.ins.sender, .string q.ins.cpty, .int .i64 q.ins.side, .string q.ins.asset, .int .i64 q.ins.qty, .int .i64 q.ins.amt, .int .i64 q.ins.tday, .int .i64 q.ins.sday, .int .i64 q.ins.prio, .bool q.ins.part, .int .i64 q.ins.minlot, .bool q.ins.hold, .bool q.ins.resv, .slice A391 q.ins.links.length c392, .bool q.am.hasAmt, .bool q.am.hasDay, .bool q.am.hasPrio, .bool q.am.hasPart, .int .i64 q.am.amt, .int .i64 q.am.sday, .int .i64 q.am.prio, .bool q.am.part, .int .i64 q.am.minlot] 45 (0, 0)), (b386, .cells #[.int .i64 r.op, .string r.sender, .string r.ref, .string r.ins.ref, .int .i64 r.ins.kind, .string r.ins.sender, .string r.ins.cpty, .int .i64 r.ins.side, .string r.ins.asset, .int .i64 r.ins.qty, .int .i64 r.ins.amt, .int .i64 r.ins.tday, .int .i64 r.ins.sday, .int .i64 r.ins.prio, .bool r.ins.part, .int .i64 r.ins.minlot, .bool r.ins.hold, .bool r.ins.resv, .slice A400 r.ins.links.length c401, .bool r.am.hasAmt, .bool r.am.hasDay, .bool r.am.hasPrio, .bool r.am.hasPart, .int .i64 r.am.amt, .int .i64 r.am.sday, .int .i64 r.am.prio, .bool r.am.part, .int .i64 r.am.minlot] 45 (0, 0)), (b8, .cells #[.int .i64 r.op, .string r.sender, .string r.ref, .string r.ins.ref, .int .i64 r.ins.kind, .string r.ins.sender, .string r.ins.cpty, .int .i64 r.ins.side, .string r.ins.asset, .int .i64 r.ins.qty, .int .i64 r.ins.amt, .int .i64 r.ins.tday, .int .i64 r.ins.sday, .int .i64 r.ins.prio, .bool r.ins.part, .int .i64 r.ins.minlot, .bool r.ins.hold, .bool r.ins.resv, .slice B r.ins.links.length d, .bool r.am.hasAmt, .bool r.am.hasDay, .bool r.am.hasPrio, .bool r.am.hasPart, .int .i64 r.am.amt, .int .i64 r.am.sday, .int .i64 r.am.prio, .bool r.am.part, .int .i64 r.am.minlot] 42 (0, 0)), (b3, .cells #[.int .i64 q.op, .string q.sender, .string q.ref, .string q.ins.ref, .int .i64 q.ins.kind, .string q.ins.sender, .string q.ins.cpty, .int .i64 q.ins.side, .string q.ins.asset, .int .i64 q.ins.qty, .int .i64 q.ins.amt, .int .i64 q.ins.tday, .int .i64 q.ins.sday, .int .i64 q.ins.prio, .bool q.ins.part, .int .i64 q.ins.minlot, .bool q.ins.hold, .bool q.ins.resv, .slice A q.ins.links.length c, .bool q.am.hasAmt, .bool q.am.hasDay, .bool q.am.hasPrio, .bool q.am.hasPart, .int .i64 q.am.amt, .int .i64 q.am.sday, .int .i64 q.am.prio, .bool q.am.part, .int .i64 q.am.minlot] 42 (0, 0))] h416 gok_none hB418 (.inr fun _ hq => hq.tail.tail) (fun w423 hB424 hT q421 h422 => ?_)
                clear h416 hB418
                have ho425 := own_turned ho419 hT (by kernel_rfl)
                have ho426 := own_turned ho420 hT (by kernel_rfl)
                clear hT
                refine wpO_end ?_
                refine cut_n ?_
                refine p_done ?_
                exact cut_n ⟨A391, c392, A400, c401, b410, b386, h422.keep _ ⟨rfl, rfl, rfl, rfl, rfl, trivial⟩, hB424.sel [1, 0, 2, 3] (by decide) rfl, ho425, ho426⟩
              exact p_none
            exact p_none
          exact p_none
        refine p_alt ?_ ?_
        ·
          refine sA 4 5 (fun b => .pointer (some ⟨b, 0, none⟩)) (.cells #[.int .i64 0, .string (⟨#[]⟩ : ByteArray), .string (⟨#[]⟩ : ByteArray), .string (⟨#[]⟩ : ByteArray), .int .i64 0, .string (⟨#[]⟩ : ByteArray), .string (⟨#[]⟩ : ByteArray), .int .i64 0, .string (⟨#[]⟩ : ByteArray), .int .i64 0, .int .i64 0, .int .i64 0, .int .i64 0, .int .i64 0, .bool false, .int .i64 0, .bool false, .bool false, .slice none 0 0, .bool false, .bool false, .bool false, .bool false, .int .i64 0, .int .i64 0, .int .i64 0, .bool false, .int .i64 0] 45 (0, 0)) h390 gok_none hB395 (fun _ _ hq => hq.tail.tail) (fun b429 w430 hB431 hN q427 h428 => ?_)
          have ho432 := own_below ho396 hN
          clear h390 hB395 hN
          refine wpO_end ?_
          refine cut_n ?_
          refine p_alt ?_ ?_
          ·
            refine sC 3 23 h428 gok_none (c23 r B d w430 (by omega) (hr2.below hB431.bel)) ?_
            rintro _ w437 ⟨A435, c436, rfl, ho441, hb438⟩
            have ho440 := own_base ho441 hB431.bel.size
            have hB439 := hB431.call hb438
            have ho442 := own_below ho432 hb438
            refine ⟨_, rfl, hB439.tail.tail, fun q433 h434 => ?_⟩
            clear h428 hB431 hb438
            refine wpO_end ?_
            refine cut_n ?_
            refine p_alt ?_ ?_
            ·
              refine sW 6 0 0 [(b429, .cells #[.int .i64 q.op, .string q.sender, .string q.ref, .string q.ins.ref, .int .i64 q.ins.kind, .string q.ins.sender, .string q.ins.cpty, .int .i64 q.ins.side, .string q.ins.asset, .int .i64 q.ins.qty, .int .i64 q.ins.amt, .int .i64 q.ins.tday, .int .i64 q.ins.sday, .int .i64 q.ins.prio, .bool q.ins.part, .int .i64 q.ins.minlot, .bool q.ins.hold, .bool q.ins.resv, .slice A391 q.ins.links.length c392, .bool q.am.hasAmt, .bool q.am.hasDay, .bool q.am.hasPrio, .bool q.am.hasPart, .int .i64 q.am.amt, .int .i64 q.am.sday, .int .i64 q.am.prio, .bool q.am.part, .int .i64 q.am.minlot] 45 (0, 0)), (b386, .cells #[.int .i64 0, .string (⟨#[]⟩ : ByteArray), .string (⟨#[]⟩ : ByteArray), .string (⟨#[]⟩ : ByteArray), .int .i64 0, .string (⟨#[]⟩ : ByteArray), .string (⟨#[]⟩ : ByteArray), .int .i64 0, .string (⟨#[]⟩ : ByteArray), .int .i64 0, .int .i64 0, .int .i64 0, .int .i64 0, .int .i64 0, .bool false, .int .i64 0, .bool false, .bool false, .slice none 0 0, .bool false, .bool false, .bool false, .bool false, .int .i64 0, .int .i64 0, .int .i64 0, .bool false, .int .i64 0] 45 (0, 0)), (b8, .cells #[.int .i64 r.op, .string r.sender, .string r.ref, .string r.ins.ref, .int .i64 r.ins.kind, .string r.ins.sender, .string r.ins.cpty, .int .i64 r.ins.side, .string r.ins.asset, .int .i64 r.ins.qty, .int .i64 r.ins.amt, .int .i64 r.ins.tday, .int .i64 r.ins.sday, .int .i64 r.ins.prio, .bool r.ins.part, .int .i64 r.ins.minlot, .bool r.ins.hold, .bool r.ins.resv, .slice B r.ins.links.length d, .bool r.am.hasAmt, .bool r.am.hasDay, .bool r.am.hasPrio, .bool r.am.hasPart, .int .i64 r.am.amt, .int .i64 r.am.sday, .int .i64 r.am.prio, .bool r.am.part, .int .i64 r.am.minlot] 42 (0, 0)), (b3, .cells #[.int .i64 q.op, .string q.sender, .string q.ref, .string q.ins.ref, .int .i64 q.ins.kind, .string q.ins.sender, .string q.ins.cpty, .int .i64 q.ins.side, .string q.ins.asset, .int .i64 q.ins.qty, .int .i64 q.ins.amt, .int .i64 q.ins.tday, .int .i64 q.ins.sday, .int .i64 q.ins.prio, .bool q.ins.part, .int .i64 q.ins.minlot, .bool q.ins.hold, .bool q.ins.resv, .slice A q.ins.links.length c, .bool q.am.hasAmt, .bool q.am.hasDay, .bool q.am.hasPrio, .bool q.am.hasPart, .int .i64 q.am.amt, .int .i64 q.am.sday, .int .i64 q.am.prio, .bool q.am.part, .int .i64 q.am.minlot] 42 (0, 0))] h434 gok_none hB439 (.inr fun _ hq => hq.tail.tail) (fun w445 hB446 hT q443 h444 => ?_)
              clear h434 hB439
              have ho447 := own_turned ho442 hT (by kernel_rfl)
              have ho448 := own_turned ho440 hT (by kernel_rfl)
              clear hT
              refine wpO_end ?_
              refine cut_n ?_
              refine p_alt ?_ ?_
              ·
                refine sW 7 1 0 [(b429, .cells #[.int .i64 q.op, .string q.sender, .string q.ref, .string q.ins.ref, .int .i64 q.ins.kind, .string q.ins.sender, .string q.ins.cpty, .int .i64 q.ins.side, .string q.ins.asset, .int .i64 q.ins.qty, .int .i64 q.ins.amt, .int .i64 q.ins.tday, .int .i64 q.ins.sday, .int .i64 q.ins.prio, .bool q.ins.part, .int .i64 q.ins.minlot, .bool q.ins.hold, .bool q.ins.resv, .slice A391 q.ins.links.length c392, .bool q.am.hasAmt, .bool q.am.hasDay, .bool q.am.hasPrio, .bool q.am.hasPart, .int .i64 q.am.amt, .int .i64 q.am.sday, .int .i64 q.am.prio, .bool q.am.part, .int .i64 q.am.minlot] 45 (0, 0)), (b386, .cells #[.int .i64 r.op, .string r.sender, .string r.ref, .string r.ins.ref, .int .i64 r.ins.kind, .string r.ins.sender, .string r.ins.cpty, .int .i64 r.ins.side, .string r.ins.asset, .int .i64 r.ins.qty, .int .i64 r.ins.amt, .int .i64 r.ins.tday, .int .i64 r.ins.sday, .int .i64 r.ins.prio, .bool r.ins.part, .int .i64 r.ins.minlot, .bool r.ins.hold, .bool r.ins.resv, .slice A435 r.ins.links.length c436, .bool r.am.hasAmt, .bool r.am.hasDay, .bool r.am.hasPrio, .bool r.am.hasPart, .int .i64 r.am.amt, .int .i64 r.am.sday, .int .i64 r.am.prio, .bool r.am.part, .int .i64 r.am.minlot] 45 (0, 0)), (b8, .cells #[.int .i64 r.op, .string r.sender, .string r.ref, .string r.ins.ref, .int .i64 r.ins.kind, .string r.ins.sender, .string r.ins.cpty, .int .i64 r.ins.side, .string r.ins.asset, .int .i64 r.ins.qty, .int .i64 r.ins.amt, .int .i64 r.ins.tday, .int .i64 r.ins.sday, .int .i64 r.ins.prio, .bool r.ins.part, .int .i64 r.ins.minlot, .bool r.ins.hold, .bool r.ins.resv, .slice B r.ins.links.length d, .bool r.am.hasAmt, .bool r.am.hasDay, .bool r.am.hasPrio, .bool r.am.hasPart, .int .i64 r.am.amt, .int .i64 r.am.sday, .int .i64 r.am.prio, .bool r.am.part, .int .i64 r.am.minlot] 42 (0, 0)), (b3, .cells #[.int .i64 q.op, .string q.sender, .string q.ref, .string q.ins.ref, .int .i64 q.ins.kind, .string q.ins.sender, .string q.ins.cpty, .int .i64 q.ins.side, .string q.ins.asset, .int .i64 q.ins.qty, .int .i64 q.ins.amt, .int .i64 q.ins.tday, .int .i64 q.ins.sday, .int .i64 q.ins.prio, .bool q.ins.part, .int .i64 q.ins.minlot, .bool q.ins.hold, .bool q.ins.resv, .slice A q.ins.links.length c, .bool q.am.hasAmt, .bool q.am.hasDay, .bool q.am.hasPrio, .bool q.am.hasPart, .int .i64 q.am.amt, .int .i64 q.am.sday, .int .i64 q.am.prio, .bool q.am.part, .int .i64 q.am.minlot] 42 (0, 0))] h444 gok_none hB446 (.inr fun _ hq => hq.tail.tail) (fun w451 hB452 hT q449 h450 => ?_)
                clear h444 hB446
                have ho453 := own_turned ho447 hT (by kernel_rfl)
                have ho454 := own_turned ho448 hT (by kernel_rfl)
                clear hT
                refine wpO_end ?_
                refine cut_n ?_
                refine p_done ?_
                exact cut_n ⟨A391, c392, A435, c436, b429, b386, h450.keep _ ⟨rfl, rfl, rfl, rfl, rfl, trivial⟩, hB452.sel [1, 0, 2, 3] (by decide) rfl, ho453, ho454⟩
              exact p_none
            exact p_none
          exact p_none
        exact p_none
      refine p_alt ?_ ?_
      ·
        refine sA 4 5 (fun b => .pointer (some ⟨b, 0, none⟩)) (.cells #[.int .i64 0, .string (⟨#[]⟩ : ByteArray), .string (⟨#[]⟩ : ByteArray), .string (⟨#[]⟩ : ByteArray), .int .i64 0, .string (⟨#[]⟩ : ByteArray), .string (⟨#[]⟩ : ByteArray), .int .i64 0, .string (⟨#[]⟩ : ByteArray), .int .i64 0, .int .i64 0, .int .i64 0, .int .i64 0, .int .i64 0, .bool false, .int .i64 0, .bool false, .bool false, .slice none 0 0, .bool false, .bool false, .bool false, .bool false, .int .i64 0, .int .i64 0, .int .i64 0, .bool false, .int .i64 0] 45 (0, 0)) h385 gok_none hB388 (fun _ _ hq => hq.tail.tail) (fun b457 w458 hB459 hN q455 h456 => ?_)
        clear h385 hB388 hN
        refine wpO_end ?_
        refine cut_n ?_
        refine p_alt ?_ ?_
        ·
          refine sC 1 21 h456 gok_none (c23 q A c w458 (by omega) (hr.below hB459.bel)) ?_
          rintro _ w464 ⟨A462, c463, rfl, ho468, hb465⟩
          have ho467 := own_base ho468 hB459.bel.size
          have hB466 := hB459.call hb465
          refine ⟨_, rfl, hB466.tail.tail, fun q460 h461 => ?_⟩
          clear h456 hB459 hb465
          refine wpO_end ?_
          refine cut_n ?_
          refine p_alt ?_ ?_
          ·
            refine sC 3 23 h461 gok_none (c23 r B d w464 (by omega) (hr2.below hB466.bel)) ?_
            rintro _ w473 ⟨A471, c472, rfl, ho477, hb474⟩
            have ho476 := own_base ho477 hB466.bel.size
            have hB475 := hB466.call hb474
            have ho478 := own_below ho467 hb474
            refine ⟨_, rfl, hB475.tail.tail, fun q469 h470 => ?_⟩
            clear h461 hB466 hb474
            refine wpO_end ?_
            refine cut_n ?_
            refine p_alt ?_ ?_
            ·
              refine sW 6 0 0 [(b457, .cells #[.int .i64 q.op, .string q.sender, .string q.ref, .string q.ins.ref, .int .i64 q.ins.kind, .string q.ins.sender, .string q.ins.cpty, .int .i64 q.ins.side, .string q.ins.asset, .int .i64 q.ins.qty, .int .i64 q.ins.amt, .int .i64 q.ins.tday, .int .i64 q.ins.sday, .int .i64 q.ins.prio, .bool q.ins.part, .int .i64 q.ins.minlot, .bool q.ins.hold, .bool q.ins.resv, .slice A462 q.ins.links.length c463, .bool q.am.hasAmt, .bool q.am.hasDay, .bool q.am.hasPrio, .bool q.am.hasPart, .int .i64 q.am.amt, .int .i64 q.am.sday, .int .i64 q.am.prio, .bool q.am.part, .int .i64 q.am.minlot] 45 (0, 0)), (b386, .cells #[.int .i64 0, .string (⟨#[]⟩ : ByteArray), .string (⟨#[]⟩ : ByteArray), .string (⟨#[]⟩ : ByteArray), .int .i64 0, .string (⟨#[]⟩ : ByteArray), .string (⟨#[]⟩ : ByteArray), .int .i64 0, .string (⟨#[]⟩ : ByteArray), .int .i64 0, .int .i64 0, .int .i64 0, .int .i64 0, .int .i64 0, .bool false, .int .i64 0, .bool false, .bool false, .slice none 0 0, .bool false, .bool false, .bool false, .bool false, .int .i64 0, .int .i64 0, .int .i64 0, .bool false, .int .i64 0] 45 (0, 0)), (b8, .cells #[.int .i64 r.op, .string r.sender, .string r.ref, .string r.ins.ref, .int .i64 r.ins.kind, .string r.ins.sender, .string r.ins.cpty, .int .i64 r.ins.side, .string r.ins.asset, .int .i64 r.ins.qty, .int .i64 r.ins.amt, .int .i64 r.ins.tday, .int .i64 r.ins.sday, .int .i64 r.ins.prio, .bool r.ins.part, .int .i64 r.ins.minlot, .bool r.ins.hold, .bool r.ins.resv, .slice B r.ins.links.length d, .bool r.am.hasAmt, .bool r.am.hasDay, .bool r.am.hasPrio, .bool r.am.hasPart, .int .i64 r.am.amt, .int .i64 r.am.sday, .int .i64 r.am.prio, .bool r.am.part, .int .i64 r.am.minlot] 42 (0, 0)), (b3, .cells #[.int .i64 q.op, .string q.sender, .string q.ref, .string q.ins.ref, .int .i64 q.ins.kind, .string q.ins.sender, .string q.ins.cpty, .int .i64 q.ins.side, .string q.ins.asset, .int .i64 q.ins.qty, .int .i64 q.ins.amt, .int .i64 q.ins.tday, .int .i64 q.ins.sday, .int .i64 q.ins.prio, .bool q.ins.part, .int .i64 q.ins.minlot, .bool q.ins.hold, .bool q.ins.resv, .slice A q.ins.links.length c, .bool q.am.hasAmt, .bool q.am.hasDay, .bool q.am.hasPrio, .bool q.am.hasPart, .int .i64 q.am.amt, .int .i64 q.am.sday, .int .i64 q.am.prio, .bool q.am.part, .int .i64 q.am.minlot] 42 (0, 0))] h470 gok_none hB475 (.inr fun _ hq => hq.tail.tail) (fun w481 hB482 hT q479 h480 => ?_)
              clear h470 hB475
              have ho483 := own_turned ho478 hT (by kernel_rfl)
              have ho484 := own_turned ho476 hT (by kernel_rfl)
              clear hT
              refine wpO_end ?_
              refine cut_n ?_
              refine p_alt ?_ ?_
              ·
                refine sW 7 1 0 [(b457, .cells #[.int .i64 q.op, .string q.sender, .string q.ref, .string q.ins.ref, .int .i64 q.ins.kind, .string q.ins.sender, .string q.ins.cpty, .int .i64 q.ins.side, .string q.ins.asset, .int .i64 q.ins.qty, .int .i64 q.ins.amt, .int .i64 q.ins.tday, .int .i64 q.ins.sday, .int .i64 q.ins.prio, .bool q.ins.part, .int .i64 q.ins.minlot, .bool q.ins.hold, .bool q.ins.resv, .slice A462 q.ins.links.length c463, .bool q.am.hasAmt, .bool q.am.hasDay, .bool q.am.hasPrio, .bool q.am.hasPart, .int .i64 q.am.amt, .int .i64 q.am.sday, .int .i64 q.am.prio, .bool q.am.part, .int .i64 q.am.minlot] 45 (0, 0)), (b386, .cells #[.int .i64 r.op, .string r.sender, .string r.ref, .string r.ins.ref, .int .i64 r.ins.kind, .string r.ins.sender, .string r.ins.cpty, .int .i64 r.ins.side, .string r.ins.asset, .int .i64 r.ins.qty, .int .i64 r.ins.amt, .int .i64 r.ins.tday, .int .i64 r.ins.sday, .int .i64 r.ins.prio, .bool r.ins.part, .int .i64 r.ins.minlot, .bool r.ins.hold, .bool r.ins.resv, .slice A471 r.ins.links.length c472, .bool r.am.hasAmt, .bool r.am.hasDay, .bool r.am.hasPrio, .bool r.am.hasPart, .int .i64 r.am.amt, .int .i64 r.am.sday, .int .i64 r.am.prio, .bool r.am.part, .int .i64 r.am.minlot] 45 (0, 0)), (b8, .cells #[.int .i64 r.op, .string r.sender, .string r.ref, .string r.ins.ref, .int .i64 r.ins.kind, .string r.ins.sender, .string r.ins.cpty, .int .i64 r.ins.side, .string r.ins.asset, .int .i64 r.ins.qty, .int .i64 r.ins.amt, .int .i64 r.ins.tday, .int .i64 r.ins.sday, .int .i64 r.ins.prio, .bool r.ins.part, .int .i64 r.ins.minlot, .bool r.ins.hold, .bool r.ins.resv, .slice B r.ins.links.length d, .bool r.am.hasAmt, .bool r.am.hasDay, .bool r.am.hasPrio, .bool r.am.hasPart, .int .i64 r.am.amt, .int .i64 r.am.sday, .int .i64 r.am.prio, .bool r.am.part, .int .i64 r.am.minlot] 42 (0, 0)), (b3, .cells #[.int .i64 q.op, .string q.sender, .string q.ref, .string q.ins.ref, .int .i64 q.ins.kind, .string q.ins.sender, .string q.ins.cpty, .int .i64 q.ins.side, .string q.ins.asset, .int .i64 q.ins.qty, .int .i64 q.ins.amt, .int .i64 q.ins.tday, .int .i64 q.ins.sday, .int .i64 q.ins.prio, .bool q.ins.part, .int .i64 q.ins.minlot, .bool q.ins.hold, .bool q.ins.resv, .slice A q.ins.links.length c, .bool q.am.hasAmt, .bool q.am.hasDay, .bool q.am.hasPrio, .bool q.am.hasPart, .int .i64 q.am.amt, .int .i64 q.am.sday, .int .i64 q.am.prio, .bool q.am.part, .int .i64 q.am.minlot] 42 (0, 0))] h480 gok_none hB482 (.inr fun _ hq => hq.tail.tail) (fun w487 hB488 hT q485 h486 => ?_)
                clear h480 hB482
                have ho489 := own_turned ho483 hT (by kernel_rfl)
                have ho490 := own_turned ho484 hT (by kernel_rfl)
                clear hT
                refine wpO_end ?_
                refine cut_n ?_
                refine p_done ?_
                exact cut_n ⟨A462, c463, A471, c472, b457, b386, h486.keep _ ⟨rfl, rfl, rfl, rfl, rfl, trivial⟩, hB488.sel [1, 0, 2, 3] (by decide) rfl, ho489, ho490⟩
              exact p_none
            exact p_none
          exact p_none
        exact p_none
      exact p_none
    exact p_none
  rintro q491 w492 ⟨A31, c32, A40, c41, b50, b57, h493, hB494, ho495, ho496⟩
  refine then_n ?_
  refine kS ?_
  have hD497 := hB494.drew
  refine rd (Bx w [(b57, .cells #[.int .i64 r.op, .string r.sender, .string r.ref, .string r.ins.ref, .int .i64 r.ins.kind, .string r.ins.sender, .string r.ins.cpty, .int .i64 r.ins.side, .string r.ins.asset, .int .i64 r.ins.qty, .int .i64 r.ins.amt, .int .i64 r.ins.tday, .int .i64 r.ins.sday, .int .i64 r.ins.prio, .bool r.ins.part, .int .i64 r.ins.minlot, .bool r.ins.hold, .bool r.ins.resv, .slice A40 r.ins.links.length c41, .bool r.am.hasAmt, .bool r.am.hasDay, .bool r.am.hasPrio, .bool r.am.hasPart, .int .i64 r.am.amt, .int .i64 r.am.sday, .int .i64 r.am.prio, .bool r.am.part, .int .i64 r.am.minlot] 45 (0, 0)), (b50, .cells #[.int .i64 q.op, .string q.sender, .string q.ref, .string q.ins.ref, .int .i64 q.ins.kind, .string q.ins.sender, .string q.ins.cpty, .int .i64 q.ins.side, .string q.ins.asset, .int .i64 q.ins.qty, .int .i64 q.ins.amt, .int .i64 q.ins.tday, .int .i64 q.ins.sday, .int .i64 q.ins.prio, .bool q.ins.part, .int .i64 q.ins.minlot, .bool q.ins.hold, .bool q.ins.resv, .slice A31 q.ins.links.length c32, .bool q.am.hasAmt, .bool q.am.hasDay, .bool q.am.hasPrio, .bool q.am.hasPart, .int .i64 q.am.amt, .int .i64 q.am.sday, .int .i64 q.am.prio, .bool q.am.part, .int .i64 q.am.minlot] 45 (0, 0)), (b8, .cells #[.int .i64 r.op, .string r.sender, .string r.ref, .string r.ins.ref, .int .i64 r.ins.kind, .string r.ins.sender, .string r.ins.cpty, .int .i64 r.ins.side, .string r.ins.asset, .int .i64 r.ins.qty, .int .i64 r.ins.amt, .int .i64 r.ins.tday, .int .i64 r.ins.sday, .int .i64 r.ins.prio, .bool r.ins.part, .int .i64 r.ins.minlot, .bool r.ins.hold, .bool r.ins.resv, .slice B r.ins.links.length d, .bool r.am.hasAmt, .bool r.am.hasDay, .bool r.am.hasPrio, .bool r.am.hasPart, .int .i64 r.am.amt, .int .i64 r.am.sday, .int .i64 r.am.prio, .bool r.am.part, .int .i64 r.am.minlot] 42 (0, 0)), (b3, .cells #[.int .i64 q.op, .string q.sender, .string q.ref, .string q.ins.ref, .int .i64 q.ins.kind, .string q.ins.sender, .string q.ins.cpty, .int .i64 q.ins.side, .string q.ins.asset, .int .i64 q.ins.qty, .int .i64 q.ins.amt, .int .i64 q.ins.tday, .int .i64 q.ins.sday, .int .i64 q.ins.prio, .bool q.ins.part, .int .i64 q.ins.minlot, .bool q.ins.hold, .bool q.ins.resv, .slice A q.ins.links.length c, .bool q.am.hasAmt, .bool q.am.hasDay, .bool q.am.hasPrio, .bool q.am.hasPart, .int .i64 q.am.amt, .int .i64 q.am.sday, .int .i64 q.am.prio, .bool q.am.part, .int .i64 q.am.minlot] 42 (0, 0))]) 30 [⟨0, true, 0, 32, 16777216⟩, ⟨1, true, 1, 16777216, 33554432⟩, ⟨2, true, 0, 64, 67108864⟩, ⟨3, true, 4, 67108864, 134217728⟩, ⟨5, true, 0, 4, 536870912⟩, ⟨6, true, 32, 536870912, 1073741824⟩, ⟨7, true, 0, 8, 2147483648⟩, ⟨8, true, 128, 2147483648, 4294967296⟩, ⟨4, false, 10, 167772160, 268435456⟩, ⟨9, false, 336, 5368709120, 8589934592⟩, ⟨10, true, 528, 8858370048, 17179869184⟩, ⟨11, true, 1536, 17179869184, 34359738368⟩, ⟨12, true, 2048, 34359738400, 68719476736⟩, ⟨13, true, 2048, 34359738432, 137438953472⟩, ⟨15, true, 2048, 34359738372, 549755813888⟩, ⟨16, true, 2048, 34359738376, 1099511627776⟩, ⟨14, false, 14336, 240518168576, 274877906944⟩, ⟨17, false, 116736, 1683627180032, 2199023255552⟩, ⟨18, true, 149504, 2508260900864, 4398046511104⟩, ⟨19, true, 264192, 4432406249472, 8796093022208⟩, ⟨20, true, 655360, 8796093022208, 17592186044416⟩, ⟨21, true, 1048576, 17592186044448, 35184372088832⟩, ⟨22, true, 1048576, 17592186044420, 70368744177664⟩, ⟨23, false, 5242880, 87960930222080, 140737488355328⟩, ⟨24, false, 11534336, 193514046488576, 281474976710656⟩, ⟨25, true, 17825792, 299067162755072, 562949953421312⟩, ⟨26, true, 50331648, 562949953421312, 1125899906842624⟩, ⟨27, false, 67108864, 1125899906842624, 2251799813685248⟩, ⟨28, true, 201326592, 3377699720527872, 4503599627370496⟩, ⟨29, true, 536870911, 4503599627370496, 16⟩] hD497 ?_
  have ho498 := own_drew ho495
  have ho499 := own_drew ho496
  generalize World.drew w492 = w500 at hD497 ho498 ho499 ⊢
  refine d0 (.C 0 24 <| .S 1 25 1 3 16 <| .C 2 26 <| .S 3 27 0 3 16 <| .C 5 29 <| .S 6 30 3 3 16 <| .C 7 31 <| .S 8 32 2 3 16 <| .nil) [(32, insV r.ins B d), (30, insV q.ins A c), (27, insV r.ins A40 c41), (25, insV q.ins A31 c32), (6, .pointer (some ⟨b57, 0, none⟩)), (5, .pointer (some ⟨b50, 0, none⟩)), (4, .bool false), (3, .pointer (some ⟨b8, 0, none⟩)), (2, .pointer (some ⟨b3, 0, none⟩))] h493 (fun _ hS => Kw.nil hS) fun q501 h502 => ?_
  clear h493
  refine sC 4 28 h502 gok_none (c24 q.ins r.ins A31 A40 c32 c41 w500 (show q.ins.links.length ≤ 4611686018427387904 by omega) (own_rr ho498) (own_rr ho499)) ?_
  rintro _ w505 ⟨rfl, hb506⟩
  have hB507 := hD497.call hb506
  have ho508 := own_below ho498 hb506
  have ho509 := own_below ho499 hb506
  refine ⟨_, rfl, hB507, fun q503 h504 => ?_⟩
  clear h502 hD497 hb506
  refine sC 9 33 h504 gok_none (c25 q.ins r.ins A B c d w505 (show q.ins.links.length ≤ 4611686018427387904 by omega) (hr.below hB507.bel) (hr2.below hB507.bel)) ?_
  rintro _ w512 ⟨rfl, hb513⟩
  have hB514 := hB507.call hb513
  have ho515 := own_below ho508 hb513
  have ho516 := own_below ho509 hb513
  refine ⟨_, rfl, hB514, fun q510 h511 => ?_⟩
  clear h504 hB507 hb513
  refine fE 10 34 (.binOp .eql 4 (.tmp 28) (.tmp 33) 4) 4 (.bool ((insEq q.ins r.ins) == (sameI q.ins r.ins))) h511 fun q517 h518 => ?_
  clear h511
  have h519 := h518.keep [(34, .bool true), (33, .bool (sameI q.ins r.ins)), (28, .bool (insEq q.ins r.ins)), (32, insV r.ins B d), (30, insV q.ins A c), (27, insV r.ins A40 c41), (25, insV q.ins A31 c32), (6, .pointer (some ⟨b57, 0, none⟩)), (5, .pointer (some ⟨b50, 0, none⟩)), (4, .bool false), (3, .pointer (some ⟨b8, 0, none⟩)), (2, .pointer (some ⟨b3, 0, none⟩))] ⟨look_bool rfl (by rw [same_eq]; exact beq_self_eq_true _), rfl, rfl, rfl, rfl, rfl, rfl, rfl, rfl, rfl, rfl, rfl, trivial⟩
  clear h518
  refine d1 35 (rfl : true = true) (.C 11 35 <| .S 12 36 1 0 28 <| .S 13 37 0 0 28 <| .S 15 39 3 0 28 <| .S 16 40 2 0 28 <| .nil) [(40, .agg #[.int .i64 r.op, .string r.sender, .string r.ref, .string r.ins.ref, .int .i64 r.ins.kind, .string r.ins.sender, .string r.ins.cpty, .int .i64 r.ins.side, .string r.ins.asset, .int .i64 r.ins.qty, .int .i64 r.ins.amt, .int .i64 r.ins.tday, .int .i64 r.ins.sday, .int .i64 r.ins.prio, .bool r.ins.part, .int .i64 r.ins.minlot, .bool r.ins.hold, .bool r.ins.resv, .slice B r.ins.links.length d, .bool r.am.hasAmt, .bool r.am.hasDay, .bool r.am.hasPrio, .bool r.am.hasPart, .int .i64 r.am.amt, .int .i64 r.am.sday, .int .i64 r.am.prio, .bool r.am.part, .int .i64 r.am.minlot]), (39, .agg #[.int .i64 q.op, .string q.sender, .string q.ref, .string q.ins.ref, .int .i64 q.ins.kind, .string q.ins.sender, .string q.ins.cpty, .int .i64 q.ins.side, .string q.ins.asset, .int .i64 q.ins.qty, .int .i64 q.ins.amt, .int .i64 q.ins.tday, .int .i64 q.ins.sday, .int .i64 q.ins.prio, .bool q.ins.part, .int .i64 q.ins.minlot, .bool q.ins.hold, .bool q.ins.resv, .slice A q.ins.links.length c, .bool q.am.hasAmt, .bool q.am.hasDay, .bool q.am.hasPrio, .bool q.am.hasPart, .int .i64 q.am.amt, .int .i64 q.am.sday, .int .i64 q.am.prio, .bool q.am.part, .int .i64 q.am.minlot]), (37, .agg #[.int .i64 r.op, .string r.sender, .string r.ref, .string r.ins.ref, .int .i64 r.ins.kind, .string r.ins.sender, .string r.ins.cpty, .int .i64 r.ins.side, .string r.ins.asset, .int .i64 r.ins.qty, .int .i64 r.ins.amt, .int .i64 r.ins.tday, .int .i64 r.ins.sday, .int .i64 r.ins.prio, .bool r.ins.part, .int .i64 r.ins.minlot, .bool r.ins.hold, .bool r.ins.resv, .slice A40 r.ins.links.length c41, .bool r.am.hasAmt, .bool r.am.hasDay, .bool r.am.hasPrio, .bool r.am.hasPart, .int .i64 r.am.amt, .int .i64 r.am.sday, .int .i64 r.am.prio, .bool r.am.part, .int .i64 r.am.minlot]), (36, .agg #[.int .i64 q.op, .string q.sender, .string q.ref, .string q.ins.ref, .int .i64 q.ins.kind, .string q.ins.sender, .string q.ins.cpty, .int .i64 q.ins.side, .string q.ins.asset, .int .i64 q.ins.qty, .int .i64 q.ins.amt, .int .i64 q.ins.tday, .int .i64 q.ins.sday, .int .i64 q.ins.prio, .bool q.ins.part, .int .i64 q.ins.minlot, .bool q.ins.hold, .bool q.ins.resv, .slice A31 q.ins.links.length c32, .bool q.am.hasAmt, .bool q.am.hasDay, .bool q.am.hasPrio, .bool q.am.hasPart, .int .i64 q.am.amt, .int .i64 q.am.sday, .int .i64 q.am.prio, .bool q.am.part, .int .i64 q.am.minlot]), (35, .bool true), (5, .pointer (some ⟨b50, 0, none⟩)), (4, .bool false), (2, .pointer (some ⟨b3, 0, none⟩))] h519 (fun _ hS => Kw.nil hS) fun q520 h521 => ?_
  clear h519
  refine sC 14 38 (g := (some (11, true))) h521 (g1 35 (rfl : true = true)) (c26 q r A31 A40 c32 c41 w512 (show q.ins.links.length ≤ 4611686018427387904 by omega) (own_rr ho515) (own_rr ho516)) ?_
  rintro _ w524 ⟨rfl, hb525⟩
  have hB526 := hB514.call hb525
  have ho527 := own_below ho515 hb525
  have ho528 := own_below ho516 hb525
  refine ⟨_, rfl, hB526, fun q522 h523 => ?_⟩
  clear h521 hB514 hb525
  refine sC 17 41 (g := (some (11, true))) h523 (g1 35 (rfl : true = true)) (c27 q r A B c d w524 (show q.ins.links.length ≤ 4611686018427387904 by omega) (hr.below hB526.bel) (hr2.below hB526.bel)) ?_
  rintro _ w531 ⟨rfl, hb532⟩
  have hB533 := hB526.call hb532
  have ho534 := own_below ho527 hb532
  have ho535 := own_below ho528 hb532
  refine ⟨_, rfl, hB533, fun q529 h530 => ?_⟩
  clear h523 hB526 hb532
  refine fG 18 42 (.binOp .eql 4 (.tmp 38) (.tmp 41) 4) 4 (11, true) (.bool ((rqEq q r) == (rqSame q r))) (g1 35 (rfl : true = true)) h530 fun q536 h537 => ?_
  clear h530
  have h538 := h537.keep [(42, .bool true), (41, .bool (rqSame q r)), (38, .bool (rqEq q r)), (40, .agg #[.int .i64 r.op, .string r.sender, .string r.ref, .string r.ins.ref, .int .i64 r.ins.kind, .string r.ins.sender, .string r.ins.cpty, .int .i64 r.ins.side, .string r.ins.asset, .int .i64 r.ins.qty, .int .i64 r.ins.amt, .int .i64 r.ins.tday, .int .i64 r.ins.sday, .int .i64 r.ins.prio, .bool r.ins.part, .int .i64 r.ins.minlot, .bool r.ins.hold, .bool r.ins.resv, .slice B r.ins.links.length d, .bool r.am.hasAmt, .bool r.am.hasDay, .bool r.am.hasPrio, .bool r.am.hasPart, .int .i64 r.am.amt, .int .i64 r.am.sday, .int .i64 r.am.prio, .bool r.am.part, .int .i64 r.am.minlot]), (39, .agg #[.int .i64 q.op, .string q.sender, .string q.ref, .string q.ins.ref, .int .i64 q.ins.kind, .string q.ins.sender, .string q.ins.cpty, .int .i64 q.ins.side, .string q.ins.asset, .int .i64 q.ins.qty, .int .i64 q.ins.amt, .int .i64 q.ins.tday, .int .i64 q.ins.sday, .int .i64 q.ins.prio, .bool q.ins.part, .int .i64 q.ins.minlot, .bool q.ins.hold, .bool q.ins.resv, .slice A q.ins.links.length c, .bool q.am.hasAmt, .bool q.am.hasDay, .bool q.am.hasPrio, .bool q.am.hasPart, .int .i64 q.am.amt, .int .i64 q.am.sday, .int .i64 q.am.prio, .bool q.am.part, .int .i64 q.am.minlot]), (37, .agg #[.int .i64 r.op, .string r.sender, .string r.ref, .string r.ins.ref, .int .i64 r.ins.kind, .string r.ins.sender, .string r.ins.cpty, .int .i64 r.ins.side, .string r.ins.asset, .int .i64 r.ins.qty, .int .i64 r.ins.amt, .int .i64 r.ins.tday, .int .i64 r.ins.sday, .int .i64 r.ins.prio, .bool r.ins.part, .int .i64 r.ins.minlot, .bool r.ins.hold, .bool r.ins.resv, .slice A40 r.ins.links.length c41, .bool r.am.hasAmt, .bool r.am.hasDay, .bool r.am.hasPrio, .bool r.am.hasPart, .int .i64 r.am.amt, .int .i64 r.am.sday, .int .i64 r.am.prio, .bool r.am.part, .int .i64 r.am.minlot]), (36, .agg #[.int .i64 q.op, .string q.sender, .string q.ref, .string q.ins.ref, .int .i64 q.ins.kind, .string q.ins.sender, .string q.ins.cpty, .int .i64 q.ins.side, .string q.ins.asset, .int .i64 q.ins.qty, .int .i64 q.ins.amt, .int .i64 q.ins.tday, .int .i64 q.ins.sday, .int .i64 q.ins.prio, .bool q.ins.part, .int .i64 q.ins.minlot, .bool q.ins.hold, .bool q.ins.resv, .slice A31 q.ins.links.length c32, .bool q.am.hasAmt, .bool q.am.hasDay, .bool q.am.hasPrio, .bool q.am.hasPart, .int .i64 q.am.amt, .int .i64 q.am.sday, .int .i64 q.am.prio, .bool q.am.part, .int .i64 q.am.minlot]), (35, .bool true), (5, .pointer (some ⟨b50, 0, none⟩)), (4, .bool false), (2, .pointer (some ⟨b3, 0, none⟩))] ⟨look_bool rfl (by rw [rq_same]; exact beq_self_eq_true _), rfl, rfl, rfl, rfl, rfl, rfl, rfl, rfl, rfl, rfl, trivial⟩
  clear h537
  refine d1 44 (rfl : true = true) (.E 19 43 (.bool true) <| .C 20 44 <| .S 21 45 1 0 28 <| .S 22 46 3 0 28 <| .nil) [(46, .agg #[.int .i64 q.op, .string q.sender, .string q.ref, .string q.ins.ref, .int .i64 q.ins.kind, .string q.ins.sender, .string q.ins.cpty, .int .i64 q.ins.side, .string q.ins.asset, .int .i64 q.ins.qty, .int .i64 q.ins.amt, .int .i64 q.ins.tday, .int .i64 q.ins.sday, .int .i64 q.ins.prio, .bool q.ins.part, .int .i64 q.ins.minlot, .bool q.ins.hold, .bool q.ins.resv, .slice A q.ins.links.length c, .bool q.am.hasAmt, .bool q.am.hasDay, .bool q.am.hasPrio, .bool q.am.hasPart, .int .i64 q.am.amt, .int .i64 q.am.sday, .int .i64 q.am.prio, .bool q.am.part, .int .i64 q.am.minlot]), (45, .agg #[.int .i64 q.op, .string q.sender, .string q.ref, .string q.ins.ref, .int .i64 q.ins.kind, .string q.ins.sender, .string q.ins.cpty, .int .i64 q.ins.side, .string q.ins.asset, .int .i64 q.ins.qty, .int .i64 q.ins.amt, .int .i64 q.ins.tday, .int .i64 q.ins.sday, .int .i64 q.ins.prio, .bool q.ins.part, .int .i64 q.ins.minlot, .bool q.ins.hold, .bool q.ins.resv, .slice A31 q.ins.links.length c32, .bool q.am.hasAmt, .bool q.am.hasDay, .bool q.am.hasPrio, .bool q.am.hasPart, .int .i64 q.am.amt, .int .i64 q.am.sday, .int .i64 q.am.prio, .bool q.am.part, .int .i64 q.am.minlot]), (44, .bool true), (4, .bool false)] h538 (fun _ hS => Kw.nil hS) fun q539 h540 => ?_
  clear h538
  refine sC 23 47 (g := (some (20, true))) h540 (g1 44 (rfl : true = true)) (c23 q A c w531 (by omega) (hr.below hB533.bel)) ?_
  rintro _ w545 ⟨A543, c544, rfl, ho549, hb546⟩
  have ho548 := own_base ho549 hB533.bel.size
  have hB547 := hB533.call hb546
  have ho550 := own_below ho534 hb546
  have ho551 := own_below ho535 hb546
  refine ⟨_, rfl, hB547, fun q541 h542 => ?_⟩
  clear h540 hB533 hb546
  refine sC 24 48 (g := (some (20, true))) h542 (g1 44 (rfl : true = true)) (c26 q q A31 A543 c32 c544 w545 (show q.ins.links.length ≤ 4611686018427387904 by omega) (own_rr ho550) (own_rr ho548)) ?_
  rintro _ w554 ⟨rfl, hb555⟩
  have hB556 := hB547.call hb555
  have ho557 := own_below ho550 hb555
  have ho558 := own_below ho551 hb555
  have ho559 := own_below ho548 hb555
  refine ⟨_, rfl, hB556, fun q552 h553 => ?_⟩
  clear h542 hB547 hb555
  have h560 := h553.keep [(48, .bool true), (47, .agg #[.int .i64 q.op, .string q.sender, .string q.ref, .string q.ins.ref, .int .i64 q.ins.kind, .string q.ins.sender, .string q.ins.cpty, .int .i64 q.ins.side, .string q.ins.asset, .int .i64 q.ins.qty, .int .i64 q.ins.amt, .int .i64 q.ins.tday, .int .i64 q.ins.sday, .int .i64 q.ins.prio, .bool q.ins.part, .int .i64 q.ins.minlot, .bool q.ins.hold, .bool q.ins.resv, .slice A543 q.ins.links.length c544, .bool q.am.hasAmt, .bool q.am.hasDay, .bool q.am.hasPrio, .bool q.am.hasPart, .int .i64 q.am.amt, .int .i64 q.am.sday, .int .i64 q.am.prio, .bool q.am.part, .int .i64 q.am.minlot]), (46, .agg #[.int .i64 q.op, .string q.sender, .string q.ref, .string q.ins.ref, .int .i64 q.ins.kind, .string q.ins.sender, .string q.ins.cpty, .int .i64 q.ins.side, .string q.ins.asset, .int .i64 q.ins.qty, .int .i64 q.ins.amt, .int .i64 q.ins.tday, .int .i64 q.ins.sday, .int .i64 q.ins.prio, .bool q.ins.part, .int .i64 q.ins.minlot, .bool q.ins.hold, .bool q.ins.resv, .slice A q.ins.links.length c, .bool q.am.hasAmt, .bool q.am.hasDay, .bool q.am.hasPrio, .bool q.am.hasPart, .int .i64 q.am.amt, .int .i64 q.am.sday, .int .i64 q.am.prio, .bool q.am.part, .int .i64 q.am.minlot]), (45, .agg #[.int .i64 q.op, .string q.sender, .string q.ref, .string q.ins.ref, .int .i64 q.ins.kind, .string q.ins.sender, .string q.ins.cpty, .int .i64 q.ins.side, .string q.ins.asset, .int .i64 q.ins.qty, .int .i64 q.ins.amt, .int .i64 q.ins.tday, .int .i64 q.ins.sday, .int .i64 q.ins.prio, .bool q.ins.part, .int .i64 q.ins.minlot, .bool q.ins.hold, .bool q.ins.resv, .slice A31 q.ins.links.length c32, .bool q.am.hasAmt, .bool q.am.hasDay, .bool q.am.hasPrio, .bool q.am.hasPart, .int .i64 q.am.amt, .int .i64 q.am.sday, .int .i64 q.am.prio, .bool q.am.part, .int .i64 q.am.minlot]), (44, .bool true), (4, .bool false)] ⟨look_bool rfl (rq_refl _), rfl, rfl, rfl, rfl, rfl, trivial⟩
  clear h553
  refine d0 (.E 25 49 (.bool true) <| .C 26 50 <| .nil) [(50, .bool true), (4, .bool false)] h560 (fun _ hS => Kw.nil hS) fun q561 h562 => ?_
  clear h560
  refine sC 27 51 (g := (some (26, true))) h562 (g1 50 (rfl : true = true)) (c12 w554) ?_
  rintro _ w565 ⟨rfl, hb566⟩
  have hB567 := hB556.call hb566
  have ho568 := own_below ho557 hb566
  have ho569 := own_below ho558 hb566
  have ho570 := own_below ho559 hb566
  refine ⟨_, rfl, hB567, fun q563 h564 => ?_⟩
  clear h562 hB556 hb566
  refine d0 (.E 28 52 (.bool true) <| .C 29 4 <| .nil) [(4, .bool true)] h564 (fun _ hS => Kw.nil hS) fun q571 h572 => ?_
  clear h564
  refine wpO_end ?_
  refine then_n ?_
  refine c_ret (by kernel_rfl) ?_
  refine ret1 (t := 4) (v := .bool true) h572 (by kernel_rfl) (by kernel_rfl) ?_
  exact ⟨ret_eq (rfl), hB567.bel⟩

end Go.Proofs.YtljegdokbifoiaaDoor.Af
