/- The law of Check. No condition but the argument's own. -/
import Derived.Test.YtljegdokbifoiaaDoorKn
import Derived.Test.YtljegdokbifoiaaDoorOw
import Derived.Test.YtljegdokbifoiaaDoorLc
namespace Go.Proofs.YtljegdokbifoiaaDoor.Af
open Go.RowKit
set_option maxHeartbeats 4000000 in
set_option maxRecDepth 20000 in
theorem law3 (i : Ins) (A : Option Addr) (c : Nat) (w : World) (hr : Rd w A (lkc i.links)) : Calls Tryd.prog 3 #[.agg #[.string i.ref, .int .i64 i.kind, .string i.sender, .string i.cpty, .int .i64 i.side, .string i.asset, .int .i64 i.qty, .int .i64 i.amt, .int .i64 i.tday, .int .i64 i.sday, .int .i64 i.prio, .bool i.part, .int .i64 i.minlot, .bool i.hold, .bool i.resv, .slice A i.links.length c]] w fun e w' => e = .returned (.bool true) ∧ Below w.heap.size w w' := by
  refine enter Tryd.func3 (by kernel_rfl) ?_ (by kernel_rfl)
  intro q0 h0
  replace h0 := h0.conv (l' := [(0, .agg #[.string i.ref, .int .i64 i.kind, .string i.sender, .string i.cpty, .int .i64 i.side, .string i.asset, .int .i64 i.qty, .int .i64 i.amt, .int .i64 i.tday, .int .i64 i.sday, .int .i64 i.prio, .bool i.part, .int .i64 i.minlot, .bool i.hold, .bool i.resv, .slice A i.links.length c])]) rfl
  have hB := Bx.refl w
  refine c_seq (by kernel_rfl) ?_
  refine reg_plain [(0, false), (1, false)] (by kernel_rfl) (by kernel_rfl) ?_
  refine stA (i := 0) (d := 1) (op := Op.box 24 (Operand.tmp 0)) (ty := 0) (g := none) (mk := fun b => .pointer (some ⟨b, 0, none⟩)) (o := .cells #[.string i.ref, .int .i64 i.kind, .string i.sender, .string i.cpty, .int .i64 i.side, .string i.asset, .int .i64 i.qty, .int .i64 i.amt, .int .i64 i.tday, .int .i64 i.sday, .int .i64 i.prio, .bool i.part, .int .i64 i.minlot, .bool i.hold, .bool i.resv, .slice A i.links.length c] 24 (0, 0)) h0 (by kernel_rfl) (by kernel_rfl) (by kernel_rfl) gok_none (fun _ => by kernel_rfl) hB (fun _ _ hq => trivial) (fun b3 w4 hB5 hN q1 h2 => ?_)
  clear h0 hB hN
  refine eE 1 2 (.assign (.const (.bool false))) 4 (.bool false) h2 fun q6 h7 => ?_
  clear h2
  refine wpO_end ?_
  have h8 := h7.keep [(2, .bool false), (1, .pointer (some ⟨b3, 0, none⟩))] ⟨rfl, rfl, trivial⟩
  clear h7
  refine then_n ?_
  refine c_seq (by kernel_rfl) ?_
  refine c_seq (by kernel_rfl) ?_
  refine reg_plain [(0, false), (1, false), (2, false), (3, false)] (by kernel_rfl) (by kernel_rfl) ?_
  refine eE 0 3 (.fieldAddr 24 (.tmp 1) 15) 0 (.pointer (some ⟨b3, 15, none⟩)) h8 fun q9 h10 => ?_
  clear h8
  refine eE 1 4 (.load 22 (.tmp 3)) 22 (.slice A i.links.length c) h10 (hr := r_loadC (b := b3) (v := .slice A i.links.length c) hB5 0 15 (by kernel_rfl) (by kernel_rfl) (by kernel_rfl)) fun q11 h12 => ?_
  clear h10
  refine eE 2 5 (.call { callee := .builtin .len, args := #[.tmp 4], argTypes := #[22] }) 3 (.int .i64 ((i.links.length : Nat) : Int)) h12 fun q13 h14 => ?_
  clear h12
  refine eE 3 6 (.binOp .gtr 3 (.tmp 5) (.const (.int .i64 40)) 3) 4 (.bool (decide ((40 : Int) < ((i.links.length : Nat) : Int)))) h14 fun q15 h16 => ?_
  clear h14
  refine wpO_end ?_
  have h17 := h16.keep [(6, .bool (decide ((40 : Int) < ((i.links.length : Nat) : Int)))), (2, .bool false), (1, .pointer (some ⟨b3, 0, none⟩))] ⟨rfl, rfl, rfl, trivial⟩
  clear h16
  refine then_n ?_
  refine c_cond (t := 6) (b := decide ((40 : Int) < ((i.links.length : Nat) : Int))) h17 (by kernel_rfl) (by kernel_rfl) (fun hc18 => ?_) (fun hc18 => ?_)
  ·
    have hp19 : ((40 : Int) < ((i.links.length : Nat) : Int)) := of_decide_eq_true hc18
    refine c_seq (by kernel_rfl) ?_
    refine reg_plain [(0, false), (1, false)] (by kernel_rfl) (by kernel_rfl) ?_
    refine stC (i := 0) (d := 7) (op := Op.call { callee := Callee.value (Operand.func 12), args := #[], argTypes := #[] }) (ty := 4) (g := none) (f := 12) (args := #[]) (w1 := w4) h17 (by kernel_rfl) (by kernel_rfl) (by kernel_rfl) gok_none (by kernel_rfl) (c12 w4) ?_
    rintro _ w22 ⟨rfl, hb23⟩
    have hB24 := hB5.call hb23
    refine ⟨_, rfl, trivial, fun q20 h21 => ?_⟩
    clear h17 hB5 hb23
    refine eE 1 2 (.assign (.tmp 7)) 4 (.bool true) h21 fun q25 h26 => ?_
    clear h21
    refine wpO_end ?_
    have h27 := h26.keep [(2, .bool true), (1, .pointer (some ⟨b3, 0, none⟩))] ⟨rfl, rfl, trivial⟩
    clear h26
    refine then_n ?_
    refine c_ret (by kernel_rfl) ?_
    refine then_r ?_
    refine ret1 (t := 2) (v := .bool true) h27 (by kernel_rfl) (by kernel_rfl) ?_
    exact ⟨ret_eq (rfl), hB24.bel⟩
  ·
    have hp28 : ¬ ((40 : Int) < ((i.links.length : Nat) : Int)) := of_decide_eq_false hc18
    refine c_skip (by kernel_rfl) ?_
    refine then_n ?_
    refine c_seq (by kernel_rfl) ?_
    have hD29 := hB5.drew
    refine reg_draw (S := Bx w [(b3, .cells #[.string i.ref, .int .i64 i.kind, .string i.sender, .string i.cpty, .int .i64 i.side, .string i.asset, .int .i64 i.qty, .int .i64 i.amt, .int .i64 i.tday, .int .i64 i.sday, .int .i64 i.prio, .bool i.part, .int .i64 i.minlot, .bool i.hold, .bool i.resv, .slice A i.links.length c] 24 (0, 0))]) 10 [⟨0, true, 0, 2, 256⟩, ⟨3, true, 0, 2, 2048⟩, ⟨1, false, 1, 256, 512⟩, ⟨2, false, 2, 512, 1024⟩, ⟨4, false, 12, 2048, 4096⟩, ⟨5, true, 20, 5120, 8192⟩, ⟨6, true, 48, 8192, 16384⟩, ⟨7, false, 64, 16384, 32768⟩, ⟨8, true, 192, 49152, 65536⟩, ⟨9, true, 511, 65536, 4⟩] [(0, true), (3, true), (1, false), (2, false), (4, false), (5, true), (6, true), (7, false), (8, true), (9, true)] (by kernel_rfl) (by kernel_rfl) (by kernel_rfl) (by kernel_rfl) (fun _ _ _ _ h => absurd h.2 (by simp)) hD29 ?_
    generalize World.drew w4 = w30 at hD29 ⊢
    refine fE 0 8 (.load 24 (.tmp 1)) 24 (.agg #[.string i.ref, .int .i64 i.kind, .string i.sender, .string i.cpty, .int .i64 i.side, .string i.asset, .int .i64 i.qty, .int .i64 i.amt, .int .i64 i.tday, .int .i64 i.sday, .int .i64 i.prio, .bool i.part, .int .i64 i.minlot, .bool i.hold, .bool i.resv, .slice A i.links.length c]) h17 (hr := fun _ hS => r_loadS (b := b3) (vs := [.string i.ref, .int .i64 i.kind, .string i.sender, .string i.cpty, .int .i64 i.side, .string i.asset, .int .i64 i.qty, .int .i64 i.amt, .int .i64 i.tday, .int .i64 i.sday, .int .i64 i.prio, .bool i.part, .int .i64 i.minlot, .bool i.hold, .bool i.resv, .slice A i.links.length c]) hS 0 0 (by kernel_rfl) (by kernel_rfl) (by kernel_rfl)) fun q31 h32 => ?_
    clear h17
    refine fE 3 11 (.load 24 (.tmp 1)) 24 (.agg #[.string i.ref, .int .i64 i.kind, .string i.sender, .string i.cpty, .int .i64 i.side, .string i.asset, .int .i64 i.qty, .int .i64 i.amt, .int .i64 i.tday, .int .i64 i.sday, .int .i64 i.prio, .bool i.part, .int .i64 i.minlot, .bool i.hold, .bool i.resv, .slice A i.links.length c]) h32 (hr := fun _ hS => r_loadS (b := b3) (vs := [.string i.ref, .int .i64 i.kind, .string i.sender, .string i.cpty, .int .i64 i.side, .string i.asset, .int .i64 i.qty, .int .i64 i.amt, .int .i64 i.tday, .int .i64 i.sday, .int .i64 i.prio, .bool i.part, .int .i64 i.minlot, .bool i.hold, .bool i.resv, .slice A i.links.length c]) hS 0 0 (by kernel_rfl) (by kernel_rfl) (by kernel_rfl)) fun q33 h34 => ?_
    clear h32
    refine stC (i := 1) (d := 9) (op := Op.call { callee := Callee.value (Operand.func 13), args := #[Operand.tmp 8], argTypes := #[24] }) (ty := 29) (g := none) (f := 13) (args := #[.agg #[.string i.ref, .int .i64 i.kind, .string i.sender, .string i.cpty, .int .i64 i.side, .string i.asset, .int .i64 i.qty, .int .i64 i.amt, .int .i64 i.tday, .int .i64 i.sday, .int .i64 i.prio, .bool i.part, .int .i64 i.minlot, .bool i.hold, .bool i.resv, .slice A i.links.length c]]) (w1 := w30) h34 (by kernel_rfl) (by kernel_rfl) (by kernel_rfl) gok_none (by kernel_rfl) (c13 i A c w30 (by omega) (hr.below hD29.bel)) ?_
    rintro _ w39 ⟨A37, c38, rfl, ho42, hb40⟩
    have hB41 := hD29.call hb40
    refine ⟨_, rfl, hB41, fun q35 h36 => ?_⟩
    clear h34 hD29 hb40
    refine stC (i := 2) (d := 10) (op := Op.call { callee := Callee.value (Operand.func 14), args := #[Operand.tmp 9], argTypes := #[29] }) (ty := 26) (g := none) (f := 14) (args := #[.agg #[.string i.ref, .int .i64 i.kind, .string i.sender, .string i.cpty, .int .i64 i.side, .string i.asset, .int .i64 i.qty, .int .i64 i.amt, .int .i64 i.tday, .int .i64 i.sday, .int .i64 i.prio, .bool i.part, .int .i64 i.minlot, .bool i.hold, .bool i.resv, .slice A37 i.links.length c38]]) (w1 := w39) h36 (by kernel_rfl) (by kernel_rfl) (by kernel_rfl) gok_none (by kernel_rfl) (c14 i A37 c38 w39 (show i.links.length ≤ 4611686018427387904 by omega) (own_le ho42) (own_rr ho42)) ?_
    rintro _ w45 ⟨rfl, hb46⟩
    have hB47 := hB41.call hb46
    have ho48 := own_below ho42 hb46
    refine ⟨_, rfl, hB47, fun q43 h44 => ?_⟩
    clear h36 hB41 hb46
    refine stC (i := 4) (d := 12) (op := Op.call { callee := Callee.value (Operand.func 15), args := #[Operand.tmp 11], argTypes := #[24] }) (ty := 3) (g := none) (f := 15) (args := #[.agg #[.string i.ref, .int .i64 i.kind, .string i.sender, .string i.cpty, .int .i64 i.side, .string i.asset, .int .i64 i.qty, .int .i64 i.amt, .int .i64 i.tday, .int .i64 i.sday, .int .i64 i.prio, .bool i.part, .int .i64 i.minlot, .bool i.hold, .bool i.resv, .slice A i.links.length c]]) (w1 := w45) h44 (by kernel_rfl) (by kernel_rfl) (by kernel_rfl) gok_none (by kernel_rfl) (c15 i A c w45 (show i.links.length ≤ 4611686018427387904 by omega) (hr.below hB47.bel)) ?_
    rintro _ w51 ⟨rfl, hb52⟩
    have hB53 := hB47.call hb52
    have ho54 := own_below ho48 hb52
    refine ⟨_, rfl, hB53, fun q49 h50 => ?_⟩
    clear h44 hB47 hb52
    refine fE 5 13 (.binOp .eql 3 (.tmp 10) (.tmp 12) 3) 4 (.bool (chkI i == refI i)) h50 fun q55 h56 => ?_
    clear h50
    have h57 := h56.keep [(13, .bool true), (12, .int .i64 (refI i)), (10, .int .i64 (chkI i)), (9, .agg #[.string i.ref, .int .i64 i.kind, .string i.sender, .string i.cpty, .int .i64 i.side, .string i.asset, .int .i64 i.qty, .int .i64 i.amt, .int .i64 i.tday, .int .i64 i.sday, .int .i64 i.prio, .bool i.part, .int .i64 i.minlot, .bool i.hold, .bool i.resv, .slice A37 i.links.length c38]), (11, .agg #[.string i.ref, .int .i64 i.kind, .string i.sender, .string i.cpty, .int .i64 i.side, .string i.asset, .int .i64 i.qty, .int .i64 i.amt, .int .i64 i.tday, .int .i64 i.sday, .int .i64 i.prio, .bool i.part, .int .i64 i.minlot, .bool i.hold, .bool i.resv, .slice A i.links.length c]), (8, .agg #[.string i.ref, .int .i64 i.kind, .string i.sender, .string i.cpty, .int .i64 i.side, .string i.asset, .int .i64 i.qty, .int .i64 i.amt, .int .i64 i.tday, .int .i64 i.sday, .int .i64 i.prio, .bool i.part, .int .i64 i.minlot, .bool i.hold, .bool i.resv, .slice A i.links.length c]), (6, .bool (decide ((40 : Int) < ((i.links.length : Nat) : Int)))), (2, .bool false), (1, .pointer (some ⟨b3, 0, none⟩))] ⟨look_bool rfl (by rw [chk_ref]; exact beq_self_eq_true _), rfl, rfl, rfl, rfl, rfl, rfl, rfl, rfl, trivial⟩
    clear h56
    refine fE 6 14 (.move (.tmp 13)) 4 (.bool true) h57 fun q58 h59 => ?_
    clear h57
    refine stC (i := 7) (d := 15) (op := Op.call { callee := Callee.value (Operand.func 12), args := #[], argTypes := #[] }) (ty := 4) (g := (some (6, true))) (f := 12) (args := #[]) (w1 := w51) h59 (by kernel_rfl) (by kernel_rfl) (by kernel_rfl) (g1 14 (rfl : true = true)) (by kernel_rfl) (c12 w51) ?_
    rintro _ w62 ⟨rfl, hb63⟩
    have hB64 := hB53.call hb63
    have ho65 := own_below ho54 hb63
    refine ⟨_, rfl, hB64, fun q60 h61 => ?_⟩
    clear h59 hB53 hb63
    refine fE 8 16 (.pick (.tmp 14) (.tmp 15) (.const (.bool false))) 4 (.bool true) h61 fun q66 h67 => ?_
    clear h61
    refine fE 9 2 (.assign (.tmp 16)) 4 (.bool true) h67 fun q68 h69 => ?_
    clear h67
    refine wpO_end ?_
    have h70 := h69.keep [(2, .bool true)] ⟨rfl, trivial⟩
    clear h69
    refine then_n ?_
    refine c_ret (by kernel_rfl) ?_
    refine ret1 (t := 2) (v := .bool true) h70 (by kernel_rfl) (by kernel_rfl) ?_
    exact ⟨ret_eq (rfl), hB64.bel⟩

end Go.Proofs.YtljegdokbifoiaaDoor.Af
