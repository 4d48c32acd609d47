/- The chapter's example. No condition. -/
import Derived.Test.YtljegdokbifoiaaDoorMc
namespace Go.Proofs.YtljegdokbifoiaaDoor.Af
open Go.RowKit
def delB (i : Ins) : ByteArray := bif i.side == 0 then i.sender else i.cpty
def recB (i : Ins) : ByteArray := bif i.side == 0 then i.cpty else i.sender

set_option maxHeartbeats 4000000 in
set_option maxRecDepth 20000 in
theorem c16 (i : Ins) (A : Option Addr) (c : Nat) (w : World) : Calls Tryd.prog 16 #[.agg #[.string i.ref, .int .i64 i.kind, .string i.sender, .string i.cpty, .int .i64 i.side, .string i.asset, .int .i64 i.qty, .int .i64 i.amt, .int .i64 i.tday, .int .i64 i.sday, .int .i64 i.prio, .bool i.part, .int .i64 i.minlot, .bool i.hold, .bool i.resv, .slice A i.links.length c]] w fun e w' => e = .returned (.string (delB i)) ∧ Below w.heap.size w w' := by
  refine enter Tryd.func16 (by kernel_rfl) ?_ (by kernel_rfl)
  intro q0 h0
  replace h0 := h0.conv (l' := [(0, .agg #[.string i.ref, .int .i64 i.kind, .string i.sender, .string i.cpty, .int .i64 i.side, .string i.asset, .int .i64 i.qty, .int .i64 i.amt, .int .i64 i.tday, .int .i64 i.sday, .int .i64 i.prio, .bool i.part, .int .i64 i.minlot, .bool i.hold, .bool i.resv, .slice A i.links.length c])]) rfl
  have hB := Bx.refl w
  refine c_seq (by kernel_rfl) ?_
  refine reg_plain [(0, false), (1, false)] (by kernel_rfl) (by kernel_rfl) ?_
  refine stA (i := 0) (d := 1) (op := Op.box 29 (Operand.tmp 0)) (ty := 0) (g := none) (mk := fun b => .pointer (some ⟨b, 0, none⟩)) (o := .cells #[.string i.ref, .int .i64 i.kind, .string i.sender, .string i.cpty, .int .i64 i.side, .string i.asset, .int .i64 i.qty, .int .i64 i.amt, .int .i64 i.tday, .int .i64 i.sday, .int .i64 i.prio, .bool i.part, .int .i64 i.minlot, .bool i.hold, .bool i.resv, .slice A i.links.length c] 29 (0, 0)) h0 (by kernel_rfl) (by kernel_rfl) (by kernel_rfl) gok_none (fun _ => by kernel_rfl) hB (fun _ _ hq => trivial) (fun b3 w4 hB5 hN q1 h2 => ?_)
  clear h0 hB hN
  refine eE 1 2 (.assign (.const (.string { data := #[] }))) 9 (.string (⟨#[]⟩ : ByteArray)) h2 fun q6 h7 => ?_
  clear h2
  refine wpO_end ?_
  have h8 := h7.keep [(2, .string (⟨#[]⟩ : ByteArray)), (1, .pointer (some ⟨b3, 0, none⟩))] ⟨rfl, rfl, trivial⟩
  clear h7
  refine then_n ?_
  refine c_seq (by kernel_rfl) ?_
  refine c_seq (by kernel_rfl) ?_
  refine reg_plain [(0, false), (1, false), (2, false)] (by kernel_rfl) (by kernel_rfl) ?_
  refine eE 0 3 (.fieldAddr 29 (.tmp 1) 4) 0 (.pointer (some ⟨b3, 4, none⟩)) h8 fun q9 h10 => ?_
  clear h8
  refine eE 1 4 (.load 3 (.tmp 3)) 3 (.int .i64 i.side) h10 (hr := r_loadC (b := b3) (v := .int .i64 i.side) hB5 0 4 (by kernel_rfl) (by kernel_rfl) (by kernel_rfl)) fun q11 h12 => ?_
  clear h10
  refine eE 2 5 (.binOp .eql 3 (.tmp 4) (.const (.int .i64 0)) 3) 4 (.bool (i.side == (0 : Int))) h12 fun q13 h14 => ?_
  clear h12
  refine wpO_end ?_
  have h15 := h14.keep [(5, .bool (i.side == (0 : Int))), (2, .string (⟨#[]⟩ : ByteArray)), (1, .pointer (some ⟨b3, 0, none⟩))] ⟨rfl, rfl, rfl, trivial⟩
  clear h14
  refine then_n ?_
  refine c_cond (t := 5) (b := (i.side == (0 : Int))) h15 (by kernel_rfl) (by kernel_rfl) (fun hc16 => ?_) (fun hc16 => ?_)
  ·
    refine c_seq (by kernel_rfl) ?_
    refine reg_plain [(0, false), (1, false), (2, false)] (by kernel_rfl) (by kernel_rfl) ?_
    refine eE 0 6 (.fieldAddr 29 (.tmp 1) 2) 0 (.pointer (some ⟨b3, 2, none⟩)) h15 fun q17 h18 => ?_
    clear h15
    refine eE 1 7 (.load 9 (.tmp 6)) 9 (.string i.sender) h18 (hr := r_loadC (b := b3) (v := .string i.sender) hB5 0 2 (by kernel_rfl) (by kernel_rfl) (by kernel_rfl)) fun q19 h20 => ?_
    clear h18
    refine eE 2 2 (.assign (.tmp 7)) 9 (.string i.sender) h20 fun q21 h22 => ?_
    clear h20
    refine wpO_end ?_
    have h23 := h22.keep [(2, .string i.sender), (1, .pointer (some ⟨b3, 0, none⟩))] ⟨rfl, rfl, trivial⟩
    clear h22
    refine then_n ?_
    refine c_ret (by kernel_rfl) ?_
    refine then_r ?_
    refine ret1 (t := 2) (v := .string i.sender) h23 (by kernel_rfl) (by kernel_rfl) ?_
    exact ⟨ret_eq (congrArg Value.string ((cT hc16)).symm), hB5.bel⟩
  ·
    refine c_skip (by kernel_rfl) ?_
    refine then_n ?_
    refine c_seq (by kernel_rfl) ?_
    refine reg_plain [(0, false), (1, false), (2, false)] (by kernel_rfl) (by kernel_rfl) ?_
    refine eE 0 8 (.fieldAddr 29 (.tmp 1) 3) 0 (.pointer (some ⟨b3, 3, none⟩)) h15 fun q24 h25 => ?_
    clear h15
    refine eE 1 9 (.load 9 (.tmp 8)) 9 (.string i.cpty) h25 (hr := r_loadC (b := b3) (v := .string i.cpty) hB5 0 3 (by kernel_rfl) (by kernel_rfl) (by kernel_rfl)) fun q26 h27 => ?_
    clear h25
    refine eE 2 2 (.assign (.tmp 9)) 9 (.string i.cpty) h27 fun q28 h29 => ?_
    clear h27
    refine wpO_end ?_
    have h30 := h29.keep [(2, .string i.cpty)] ⟨rfl, trivial⟩
    clear h29
    refine then_n ?_
    refine c_ret (by kernel_rfl) ?_
    refine ret1 (t := 2) (v := .string i.cpty) h30 (by kernel_rfl) (by kernel_rfl) ?_
    exact ⟨ret_eq (congrArg Value.string ((cF hc16)).symm), hB5.bel⟩

set_option maxHeartbeats 4000000 in
set_option maxRecDepth 20000 in
theorem c17 (i : Ins) (A : Option Addr) (c : Nat) (w : World) : Calls Tryd.prog 17 #[.agg #[.string i.ref, .int .i64 i.kind, .string i.sender, .string i.cpty, .int .i64 i.side, .string i.asset, .int .i64 i.qty, .int .i64 i.amt, .int .i64 i.tday, .int .i64 i.sday, .int .i64 i.prio, .bool i.part, .int .i64 i.minlot, .bool i.hold, .bool i.resv, .slice A i.links.length c]] w fun e w' => e = .returned (.string (recB i)) ∧ Below w.heap.size w w' := by
  refine enter Tryd.func17 (by kernel_rfl) ?_ (by kernel_rfl)
  intro q0 h0
  replace h0 := h0.conv (l' := [(0, .agg #[.string i.ref, .int .i64 i.kind, .string i.sender, .string i.cpty, .int .i64 i.side, .string i.asset, .int .i64 i.qty, .int .i64 i.amt, .int .i64 i.tday, .int .i64 i.sday, .int .i64 i.prio, .bool i.part, .int .i64 i.minlot, .bool i.hold, .bool i.resv, .slice A i.links.length c])]) rfl
  have hB := Bx.refl w
  refine c_seq (by kernel_rfl) ?_
  refine reg_plain [(0, false), (1, false)] (by kernel_rfl) (by kernel_rfl) ?_
  refine stA (i := 0) (d := 1) (op := Op.box 29 (Operand.tmp 0)) (ty := 0) (g := none) (mk := fun b => .pointer (some ⟨b, 0, none⟩)) (o := .cells #[.string i.ref, .int .i64 i.kind, .string i.sender, .string i.cpty, .int .i64 i.side, .string i.asset, .int .i64 i.qty, .int .i64 i.amt, .int .i64 i.tday, .int .i64 i.sday, .int .i64 i.prio, .bool i.part, .int .i64 i.minlot, .bool i.hold, .bool i.resv, .slice A i.links.length c] 29 (0, 0)) h0 (by kernel_rfl) (by kernel_rfl) (by kernel_rfl) gok_none (fun _ => by kernel_rfl) hB (fun _ _ hq => trivial) (fun b3 w4 hB5 hN q1 h2 => ?_)
  clear h0 hB hN
  refine eE 1 2 (.assign (.const (.string { data := #[] }))) 9 (.string (⟨#[]⟩ : ByteArray)) h2 fun q6 h7 => ?_
  clear h2
  refine wpO_end ?_
  have h8 := h7.keep [(2, .string (⟨#[]⟩ : ByteArray)), (1, .pointer (some ⟨b3, 0, none⟩))] ⟨rfl, rfl, trivial⟩
  clear h7
  refine then_n ?_
  refine c_seq (by kernel_rfl) ?_
  refine c_seq (by kernel_rfl) ?_
  refine reg_plain [(0, false), (1, false), (2, false)] (by kernel_rfl) (by kernel_rfl) ?_
  refine eE 0 3 (.fieldAddr 29 (.tmp 1) 4) 0 (.pointer (some ⟨b3, 4, none⟩)) h8 fun q9 h10 => ?_
  clear h8
  refine eE 1 4 (.load 3 (.tmp 3)) 3 (.int .i64 i.side) h10 (hr := r_loadC (b := b3) (v := .int .i64 i.side) hB5 0 4 (by kernel_rfl) (by kernel_rfl) (by kernel_rfl)) fun q11 h12 => ?_
  clear h10
  refine eE 2 5 (.binOp .eql 3 (.tmp 4) (.const (.int .i64 0)) 3) 4 (.bool (i.side == (0 : Int))) h12 fun q13 h14 => ?_
  clear h12
  refine wpO_end ?_
  have h15 := h14.keep [(5, .bool (i.side == (0 : Int))), (2, .string (⟨#[]⟩ : ByteArray)), (1, .pointer (some ⟨b3, 0, none⟩))] ⟨rfl, rfl, rfl, trivial⟩
  clear h14
  refine then_n ?_
  refine c_cond (t := 5) (b := (i.side == (0 : Int))) h15 (by kernel_rfl) (by kernel_rfl) (fun hc16 => ?_) (fun hc16 => ?_)
  ·
    refine c_seq (by kernel_rfl) ?_
    refine reg_plain [(0, false), (1, false), (2, false)] (by kernel_rfl) (by kernel_rfl) ?_
    refine eE 0 6 (.fieldAddr 29 (.tmp 1) 3) 0 (.pointer (some ⟨b3, 3, none⟩)) h15 fun q17 h18 => ?_
    clear h15
    refine eE 1 7 (.load 9 (.tmp 6)) 9 (.string i.cpty) h18 (hr := r_loadC (b := b3) (v := .string i.cpty) hB5 0 3 (by kernel_rfl) (by kernel_rfl) (by kernel_rfl)) fun q19 h20 => ?_
    clear h18
    refine eE 2 2 (.assign (.tmp 7)) 9 (.string i.cpty) h20 fun q21 h22 => ?_
    clear h20
    refine wpO_end ?_
    have h23 := h22.keep [(2, .string i.cpty), (1, .pointer (some ⟨b3, 0, none⟩))] ⟨rfl, rfl, trivial⟩
    clear h22
    refine then_n ?_
    refine c_ret (by kernel_rfl) ?_
    refine then_r ?_
    refine ret1 (t := 2) (v := .string i.cpty) h23 (by kernel_rfl) (by kernel_rfl) ?_
    exact ⟨ret_eq (congrArg Value.string ((cT hc16)).symm), hB5.bel⟩
  ·
    refine c_skip (by kernel_rfl) ?_
    refine then_n ?_
    refine c_seq (by kernel_rfl) ?_
    refine reg_plain [(0, false), (1, false), (2, false)] (by kernel_rfl) (by kernel_rfl) ?_
    refine eE 0 8 (.fieldAddr 29 (.tmp 1) 2) 0 (.pointer (some ⟨b3, 2, none⟩)) h15 fun q24 h25 => ?_
    clear h15
    refine eE 1 9 (.load 9 (.tmp 8)) 9 (.string i.sender) h25 (hr := r_loadC (b := b3) (v := .string i.sender) hB5 0 2 (by kernel_rfl) (by kernel_rfl) (by kernel_rfl)) fun q26 h27 => ?_
    clear h25
    refine eE 2 2 (.assign (.tmp 9)) 9 (.string i.sender) h27 fun q28 h29 => ?_
    clear h27
    refine wpO_end ?_
    have h30 := h29.keep [(2, .string i.sender)] ⟨rfl, trivial⟩
    clear h29
    refine then_n ?_
    refine c_ret (by kernel_rfl) ?_
    refine ret1 (t := 2) (v := .string i.sender) h30 (by kernel_rfl) (by kernel_rfl) ?_
    exact ⟨ret_eq (congrArg Value.string ((cF hc16)).symm), hB5.bel⟩

set_option maxHeartbeats 4000000 in
set_option maxRecDepth 20000 in
theorem c18 (i : Ins) (A : Option Addr) (c : Nat) (w : World) : Calls Tryd.prog 18 #[.agg #[.string i.ref, .int .i64 i.kind, .string i.sender, .string i.cpty, .int .i64 i.side, .string i.asset, .int .i64 i.qty, .int .i64 i.amt, .int .i64 i.tday, .int .i64 i.sday, .int .i64 i.prio, .bool i.part, .int .i64 i.minlot, .bool i.hold, .bool i.resv, .slice A i.links.length c]] w fun e w' => e = .returned (.bool (isSec i)) ∧ Below w.heap.size w w' := by
  refine enter Tryd.func18 (by kernel_rfl) ?_ (by kernel_rfl)
  intro q0 h0
  replace h0 := h0.conv (l' := [(0, .agg #[.string i.ref, .int .i64 i.kind, .string i.sender, .string i.cpty, .int .i64 i.side, .string i.asset, .int .i64 i.qty, .int .i64 i.amt, .int .i64 i.tday, .int .i64 i.sday, .int .i64 i.prio, .bool i.part, .int .i64 i.minlot, .bool i.hold, .bool i.resv, .slice A i.links.length c])]) rfl
  have hB := Bx.refl w
  refine c_seq (by kernel_rfl) ?_
  refine reg_plain [(0, false), (1, false)] (by kernel_rfl) (by kernel_rfl) ?_
  refine stA (i := 0) (d := 1) (op := Op.box 29 (Operand.tmp 0)) (ty := 0) (g := none) (mk := fun b => .pointer (some ⟨b, 0, none⟩)) (o := .cells #[.string i.ref, .int .i64 i.kind, .string i.sender, .string i.cpty, .int .i64 i.side, .string i.asset, .int .i64 i.qty, .int .i64 i.amt, .int .i64 i.tday, .int .i64 i.sday, .int .i64 i.prio, .bool i.part, .int .i64 i.minlot, .bool i.hold, .bool i.resv, .slice A i.links.length c] 29 (0, 0)) h0 (by kernel_rfl) (by kernel_rfl) (by kernel_rfl) gok_none (fun _ => by kernel_rfl) hB (fun _ _ hq => trivial) (fun b3 w4 hB5 hN q1 h2 => ?_)
  clear h0 hB hN
  refine eE 1 2 (.assign (.const (.bool false))) 4 (.bool false) h2 fun q6 h7 => ?_
  clear h2
  refine wpO_end ?_
  have h8 := h7.keep [(2, .bool false), (1, .pointer (some ⟨b3, 0, none⟩))] ⟨rfl, rfl, trivial⟩
  clear h7
  refine then_n ?_
  refine c_seq (by kernel_rfl) ?_
  refine reg_plain [(0, false), (1, false), (2, false)] (by kernel_rfl) (by kernel_rfl) ?_
  refine eE 0 3 (.load 29 (.tmp 1)) 29 (.agg #[.string i.ref, .int .i64 i.kind, .string i.sender, .string i.cpty, .int .i64 i.side, .string i.asset, .int .i64 i.qty, .int .i64 i.amt, .int .i64 i.tday, .int .i64 i.sday, .int .i64 i.prio, .bool i.part, .int .i64 i.minlot, .bool i.hold, .bool i.resv, .slice A i.links.length c]) h8 (hr := r_loadS (b := b3) (vs := [.string i.ref, .int .i64 i.kind, .string i.sender, .string i.cpty, .int .i64 i.side, .string i.asset, .int .i64 i.qty, .int .i64 i.amt, .int .i64 i.tday, .int .i64 i.sday, .int .i64 i.prio, .bool i.part, .int .i64 i.minlot, .bool i.hold, .bool i.resv, .slice A i.links.length c]) hB5 0 0 (by kernel_rfl) (by kernel_rfl) (by kernel_rfl)) fun q9 h10 => ?_
  clear h8
  refine stC (i := 1) (d := 4) (op := Op.call { callee := Callee.value (Operand.func 43), args := #[Operand.tmp 3], argTypes := #[29] }) (ty := 4) (g := none) (f := 43) (args := #[.agg #[.string i.ref, .int .i64 i.kind, .string i.sender, .string i.cpty, .int .i64 i.side, .string i.asset, .int .i64 i.qty, .int .i64 i.amt, .int .i64 i.tday, .int .i64 i.sday, .int .i64 i.prio, .bool i.part, .int .i64 i.minlot, .bool i.hold, .bool i.resv, .slice A i.links.length c]]) (w1 := w4) h10 (by kernel_rfl) (by kernel_rfl) (by kernel_rfl) gok_none (by kernel_rfl) (c43 i A c w4) ?_
  rintro _ w13 ⟨rfl, hb14⟩
  have hB15 := hB5.call hb14
  refine ⟨_, rfl, trivial, fun q11 h12 => ?_⟩
  clear h10 hB5 hb14
  refine eE 2 2 (.assign (.tmp 4)) 4 (.bool (isSec i)) h12 fun q16 h17 => ?_
  clear h12
  refine wpO_end ?_
  have h18 := h17.keep [(2, .bool (isSec i))] ⟨rfl, trivial⟩
  clear h17
  refine then_n ?_
  refine c_ret (by kernel_rfl) ?_
  refine ret1 (t := 2) (v := .bool (isSec i)) h18 (by kernel_rfl) (by kernel_rfl) ?_
  exact ⟨ret_eq (rfl), hB15.bel⟩

set_option maxHeartbeats 4000000 in
set_option maxRecDepth 20000 in
theorem c12  (w : World) : Calls Tryd.prog 12 #[] w fun e w' => e = .returned (.bool true) ∧ Below w.heap.size w w' := by
  refine enter Tryd.func12 (by kernel_rfl) ?_ (by kernel_rfl)
  intro q0 h0
  replace h0 := h0.conv (l' := []) rfl
  have hB := Bx.refl w
  refine c_seq (by kernel_rfl) ?_
  refine reg_plain [(0, false)] (by kernel_rfl) (by kernel_rfl) ?_
  refine eE 0 0 (.assign (.const (.bool false))) 4 (.bool false) h0 fun q1 h2 => ?_
  clear h0
  refine wpO_end ?_
  refine then_n ?_
  refine c_seq (by kernel_rfl) ?_
  refine reg_plain [(0, false), (1, false), (2, false)] (by kernel_rfl) (by kernel_rfl) ?_
  refine eE 0 4 (.build 29 #[(0, .const (.string { data := #[68, 49] })), (1, .const (.int .i64 1)), (2, .const (.string { data := #[66, 65, 78, 75, 65] })), (3, .const (.string { data := #[66, 65, 78, 75, 66] })), (5, .const (.string { data := #[85, 83, 48, 51, 55, 56, 51, 51, 49, 48, 48, 53] })), (6, .const (.int .i64 100)), (7, .const (.int .i64 2500000)), (8, .const (.int .i64 9811)), (9, .const (.int .i64 9815))]) 29 (.agg #[.string (⟨#[68, 49]⟩ : ByteArray), .int .i64 1, .string (⟨#[66, 65, 78, 75, 65]⟩ : ByteArray), .string (⟨#[66, 65, 78, 75, 66]⟩ : ByteArray), .int .i64 0, .string (⟨#[85, 83, 48, 51, 55, 56, 51, 51, 49, 48, 48, 53]⟩ : ByteArray), .int .i64 100, .int .i64 2500000, .int .i64 9811, .int .i64 9815, .int .i64 0, .bool false, .int .i64 0, .bool false, .bool false, .slice none 0 0]) h2 fun q3 h4 => ?_
  clear h2
  refine stA (i := 1) (d := 1) (op := Op.alloc 29) (ty := 0) (g := none) (mk := fun b => .pointer (some ⟨b, 0, none⟩)) (o := .cells #[.string (⟨#[]⟩ : ByteArray), .int .i64 0, .string (⟨#[]⟩ : ByteArray), .string (⟨#[]⟩ : ByteArray), .int .i64 0, .string (⟨#[]⟩ : ByteArray), .int .i64 0, .int .i64 0, .int .i64 0, .int .i64 0, .int .i64 0, .bool false, .int .i64 0, .bool false, .bool false, .slice none 0 0] 29 (0, 0)) h4 (by kernel_rfl) (by kernel_rfl) (by kernel_rfl) gok_none (fun _ => by kernel_rfl) hB (fun _ _ hq => trivial) (fun b7 w8 hB9 hN q5 h6 => ?_)
  clear h4 hB hN
  refine stWs (i := 2) (ty := 0) (t := 29) (x := Operand.tmp 1) (y := Operand.tmp 4) (g := none) 0 0 (b := b7) (T := 29) (cs := [.string (⟨#[]⟩ : ByteArray), .int .i64 0, .string (⟨#[]⟩ : ByteArray), .string (⟨#[]⟩ : ByteArray), .int .i64 0, .string (⟨#[]⟩ : ByteArray), .int .i64 0, .int .i64 0, .int .i64 0, .int .i64 0, .int .i64 0, .bool false, .int .i64 0, .bool false, .bool false, .slice none 0 0]) (vs := [.string (⟨#[68, 49]⟩ : ByteArray), .int .i64 1, .string (⟨#[66, 65, 78, 75, 65]⟩ : ByteArray), .string (⟨#[66, 65, 78, 75, 66]⟩ : ByteArray), .int .i64 0, .string (⟨#[85, 83, 48, 51, 55, 56, 51, 51, 49, 48, 48, 53]⟩ : ByteArray), .int .i64 100, .int .i64 2500000, .int .i64 9811, .int .i64 9815, .int .i64 0, .bool false, .int .i64 0, .bool false, .bool false, .slice none 0 0]) (cs' := [.string (⟨#[68, 49]⟩ : ByteArray), .int .i64 1, .string (⟨#[66, 65, 78, 75, 65]⟩ : ByteArray), .string (⟨#[66, 65, 78, 75, 66]⟩ : ByteArray), .int .i64 0, .string (⟨#[85, 83, 48, 51, 55, 56, 51, 51, 49, 48, 48, 53]⟩ : ByteArray), .int .i64 100, .int .i64 2500000, .int .i64 9811, .int .i64 9815, .int .i64 0, .bool false, .int .i64 0, .bool false, .bool false, .slice none 0 0]) h6 (by kernel_rfl) (by kernel_rfl) gok_none hB9 (by kernel_rfl) (by kernel_rfl) (by kernel_rfl) (by kernel_rfl) (by kernel_rfl) (by kernel_rfl) (by kernel_rfl) (.inr fun _ _ => trivial) (fun w12 hB13 hT q10 h11 => ?_)
  replace hB13 : Bx w [(b7, .cells #[.string (⟨#[68, 49]⟩ : ByteArray), .int .i64 1, .string (⟨#[66, 65, 78, 75, 65]⟩ : ByteArray), .string (⟨#[66, 65, 78, 75, 66]⟩ : ByteArray), .int .i64 0, .string (⟨#[85, 83, 48, 51, 55, 56, 51, 51, 49, 48, 48, 53]⟩ : ByteArray), .int .i64 100, .int .i64 2500000, .int .i64 9811, .int .i64 9815, .int .i64 0, .bool false, .int .i64 0, .bool false, .bool false, .slice none 0 0] 29 (0, 0))] w12 := hB13
  clear h6 hB9
  clear hT
  refine wpO_end ?_
  have h14 := h11.keep [(1, .pointer (some ⟨b7, 0, none⟩)), (0, .bool false)] ⟨rfl, rfl, trivial⟩
  clear h11
  refine then_n ?_
  refine c_seq (by kernel_rfl) ?_
  refine reg_plain [(0, false), (1, false), (2, false)] (by kernel_rfl) (by kernel_rfl) ?_
  refine eE 0 5 (.load 29 (.tmp 1)) 29 (.agg #[.string (⟨#[68, 49]⟩ : ByteArray), .int .i64 1, .string (⟨#[66, 65, 78, 75, 65]⟩ : ByteArray), .string (⟨#[66, 65, 78, 75, 66]⟩ : ByteArray), .int .i64 0, .string (⟨#[85, 83, 48, 51, 55, 56, 51, 51, 49, 48, 48, 53]⟩ : ByteArray), .int .i64 100, .int .i64 2500000, .int .i64 9811, .int .i64 9815, .int .i64 0, .bool false, .int .i64 0, .bool false, .bool false, .slice none 0 0]) h14 (hr := r_loadS (b := b7) (vs := [.string (⟨#[68, 49]⟩ : ByteArray), .int .i64 1, .string (⟨#[66, 65, 78, 75, 65]⟩ : ByteArray), .string (⟨#[66, 65, 78, 75, 66]⟩ : ByteArray), .int .i64 0, .string (⟨#[85, 83, 48, 51, 55, 56, 51, 51, 49, 48, 48, 53]⟩ : ByteArray), .int .i64 100, .int .i64 2500000, .int .i64 9811, .int .i64 9815, .int .i64 0, .bool false, .int .i64 0, .bool false, .bool false, .slice none 0 0]) hB13 0 0 (by kernel_rfl) (by kernel_rfl) (by kernel_rfl)) fun q15 h16 => ?_
  clear h14
  refine stA (i := 1) (d := 2) (op := Op.alloc 29) (ty := 0) (g := none) (mk := fun b => .pointer (some ⟨b, 0, none⟩)) (o := .cells #[.string (⟨#[]⟩ : ByteArray), .int .i64 0, .string (⟨#[]⟩ : ByteArray), .string (⟨#[]⟩ : ByteArray), .int .i64 0, .string (⟨#[]⟩ : ByteArray), .int .i64 0, .int .i64 0, .int .i64 0, .int .i64 0, .int .i64 0, .bool false, .int .i64 0, .bool false, .bool false, .slice none 0 0] 29 (0, 0)) h16 (by kernel_rfl) (by kernel_rfl) (by kernel_rfl) gok_none (fun _ => by kernel_rfl) hB13 (fun _ _ hq => trivial) (fun b19 w20 hB21 hN q17 h18 => ?_)
  clear h16 hB13 hN
  refine stWs (i := 2) (ty := 0) (t := 29) (x := Operand.tmp 2) (y := Operand.tmp 5) (g := none) 0 0 (b := b19) (T := 29) (cs := [.string (⟨#[]⟩ : ByteArray), .int .i64 0, .string (⟨#[]⟩ : ByteArray), .string (⟨#[]⟩ : ByteArray), .int .i64 0, .string (⟨#[]⟩ : ByteArray), .int .i64 0, .int .i64 0, .int .i64 0, .int .i64 0, .int .i64 0, .bool false, .int .i64 0, .bool false, .bool false, .slice none 0 0]) (vs := [.string (⟨#[68, 49]⟩ : ByteArray), .int .i64 1, .string (⟨#[66, 65, 78, 75, 65]⟩ : ByteArray), .string (⟨#[66, 65, 78, 75, 66]⟩ : ByteArray), .int .i64 0, .string (⟨#[85, 83, 48, 51, 55, 56, 51, 51, 49, 48, 48, 53]⟩ : ByteArray), .int .i64 100, .int .i64 2500000, .int .i64 9811, .int .i64 9815, .int .i64 0, .bool false, .int .i64 0, .bool false, .bool false, .slice none 0 0]) (cs' := [.string (⟨#[68, 49]⟩ : ByteArray), .int .i64 1, .string (⟨#[66, 65, 78, 75, 65]⟩ : ByteArray), .string (⟨#[66, 65, 78, 75, 66]⟩ : ByteArray), .int .i64 0, .string (⟨#[85, 83, 48, 51, 55, 56, 51, 51, 49, 48, 48, 53]⟩ : ByteArray), .int .i64 100, .int .i64 2500000, .int .i64 9811, .int .i64 9815, .int .i64 0, .bool false, .int .i64 0, .bool false, .bool false, .slice none 0 0]) h18 (by kernel_rfl) (by kernel_rfl) gok_none hB21 (by kernel_rfl) (by kernel_rfl) (by kernel_rfl) (by kernel_rfl) (by kernel_rfl) (by kernel_rfl) (by kernel_rfl) (.inr fun _ _ => trivial) (fun w24 hB25 hT q22 h23 => ?_)
  replace hB25 : Bx w [(b19, .cells #[.string (⟨#[68, 49]⟩ : ByteArray), .int .i64 1, .string (⟨#[66, 65, 78, 75, 65]⟩ : ByteArray), .string (⟨#[66, 65, 78, 75, 66]⟩ : ByteArray), .int .i64 0, .string (⟨#[85, 83, 48, 51, 55, 56, 51, 51, 49, 48, 48, 53]⟩ : ByteArray), .int .i64 100, .int .i64 2500000, .int .i64 9811, .int .i64 9815, .int .i64 0, .bool false, .int .i64 0, .bool false, .bool false, .slice none 0 0] 29 (0, 0)), (b7, .cells #[.string (⟨#[68, 49]⟩ : ByteArray), .int .i64 1, .string (⟨#[66, 65, 78, 75, 65]⟩ : ByteArray), .string (⟨#[66, 65, 78, 75, 66]⟩ : ByteArray), .int .i64 0, .string (⟨#[85, 83, 48, 51, 55, 56, 51, 51, 49, 48, 48, 53]⟩ : ByteArray), .int .i64 100, .int .i64 2500000, .int .i64 9811, .int .i64 9815, .int .i64 0, .bool false, .int .i64 0, .bool false, .bool false, .slice none 0 0] 29 (0, 0))] w24 := hB25
  clear h18 hB21
  clear hT
  refine wpO_end ?_
  have h26 := h23.keep [(2, .pointer (some ⟨b19, 0, none⟩)), (1, .pointer (some ⟨b7, 0, none⟩)), (0, .bool false)] ⟨rfl, rfl, rfl, trivial⟩
  clear h23
  refine then_n ?_
  refine c_seq (by kernel_rfl) ?_
  refine reg_plain [(0, false), (1, false)] (by kernel_rfl) (by kernel_rfl) ?_
  refine eE 0 6 (.fieldAddr 29 (.tmp 2) 12) 0 (.pointer (some ⟨b19, 12, none⟩)) h26 fun q27 h28 => ?_
  clear h26
  refine stWs (i := 1) (ty := 0) (t := 2) (x := Operand.tmp 6) (y := Operand.const (Value.int IntKind.i64 10)) (g := none) 0 12 (b := b19) (T := 29) (cs := [.string (⟨#[68, 49]⟩ : ByteArray), .int .i64 1, .string (⟨#[66, 65, 78, 75, 65]⟩ : ByteArray), .string (⟨#[66, 65, 78, 75, 66]⟩ : ByteArray), .int .i64 0, .string (⟨#[85, 83, 48, 51, 55, 56, 51, 51, 49, 48, 48, 53]⟩ : ByteArray), .int .i64 100, .int .i64 2500000, .int .i64 9811, .int .i64 9815, .int .i64 0, .bool false, .int .i64 0, .bool false, .bool false, .slice none 0 0]) (vs := [.int .i64 10]) (cs' := [.string (⟨#[68, 49]⟩ : ByteArray), .int .i64 1, .string (⟨#[66, 65, 78, 75, 65]⟩ : ByteArray), .string (⟨#[66, 65, 78, 75, 66]⟩ : ByteArray), .int .i64 0, .string (⟨#[85, 83, 48, 51, 55, 56, 51, 51, 49, 48, 48, 53]⟩ : ByteArray), .int .i64 100, .int .i64 2500000, .int .i64 9811, .int .i64 9815, .int .i64 0, .bool false, .int .i64 10, .bool false, .bool false, .slice none 0 0]) h28 (by kernel_rfl) (by kernel_rfl) gok_none hB25 (by kernel_rfl) (by kernel_rfl) (by kernel_rfl) (by kernel_rfl) (by kernel_rfl) (by kernel_rfl) (by kernel_rfl) (.inr fun _ _ => trivial) (fun w31 hB32 hT q29 h30 => ?_)
  replace hB32 : Bx w [(b19, .cells #[.string (⟨#[68, 49]⟩ : ByteArray), .int .i64 1, .string (⟨#[66, 65, 78, 75, 65]⟩ : ByteArray), .string (⟨#[66, 65, 78, 75, 66]⟩ : ByteArray), .int .i64 0, .string (⟨#[85, 83, 48, 51, 55, 56, 51, 51, 49, 48, 48, 53]⟩ : ByteArray), .int .i64 100, .int .i64 2500000, .int .i64 9811, .int .i64 9815, .int .i64 0, .bool false, .int .i64 10, .bool false, .bool false, .slice none 0 0] 29 (0, 0)), (b7, .cells #[.string (⟨#[68, 49]⟩ : ByteArray), .int .i64 1, .string (⟨#[66, 65, 78, 75, 65]⟩ : ByteArray), .string (⟨#[66, 65, 78, 75, 66]⟩ : ByteArray), .int .i64 0, .string (⟨#[85, 83, 48, 51, 55, 56, 51, 51, 49, 48, 48, 53]⟩ : ByteArray), .int .i64 100, .int .i64 2500000, .int .i64 9811, .int .i64 9815, .int .i64 0, .bool false, .int .i64 0, .bool false, .bool false, .slice none 0 0] 29 (0, 0))] w31 := hB32
  clear h28 hB25
  clear hT
  refine wpO_end ?_
  have h33 := h30.keep [(2, .pointer (some ⟨b19, 0, none⟩)), (1, .pointer (some ⟨b7, 0, none⟩)), (0, .bool false)] ⟨rfl, rfl, rfl, trivial⟩
  clear h30
  refine then_n ?_
  refine c_seq (by kernel_rfl) ?_
  refine reg_plain [(0, false), (1, false), (2, false)] (by kernel_rfl) (by kernel_rfl) ?_
  refine eE 0 7 (.load 29 (.tmp 2)) 29 (.agg #[.string (⟨#[68, 49]⟩ : ByteArray), .int .i64 1, .string (⟨#[66, 65, 78, 75, 65]⟩ : ByteArray), .string (⟨#[66, 65, 78, 75, 66]⟩ : ByteArray), .int .i64 0, .string (⟨#[85, 83, 48, 51, 55, 56, 51, 51, 49, 48, 48, 53]⟩ : ByteArray), .int .i64 100, .int .i64 2500000, .int .i64 9811, .int .i64 9815, .int .i64 0, .bool false, .int .i64 10, .bool false, .bool false, .slice none 0 0]) h33 (hr := r_loadS (b := b19) (vs := [.string (⟨#[68, 49]⟩ : ByteArray), .int .i64 1, .string (⟨#[66, 65, 78, 75, 65]⟩ : ByteArray), .string (⟨#[66, 65, 78, 75, 66]⟩ : ByteArray), .int .i64 0, .string (⟨#[85, 83, 48, 51, 55, 56, 51, 51, 49, 48, 48, 53]⟩ : ByteArray), .int .i64 100, .int .i64 2500000, .int .i64 9811, .int .i64 9815, .int .i64 0, .bool false, .int .i64 10, .bool false, .bool false, .slice none 0 0]) hB32 0 0 (by kernel_rfl) (by kernel_rfl) (by kernel_rfl)) fun q34 h35 => ?_
  clear h33
  refine stA (i := 1) (d := 3) (op := Op.alloc 29) (ty := 0) (g := none) (mk := fun b => .pointer (some ⟨b, 0, none⟩)) (o := .cells #[.string (⟨#[]⟩ : ByteArray), .int .i64 0, .string (⟨#[]⟩ : ByteArray), .string (⟨#[]⟩ : ByteArray), .int .i64 0, .string (⟨#[]⟩ : ByteArray), .int .i64 0, .int .i64 0, .int .i64 0, .int .i64 0, .int .i64 0, .bool false, .int .i64 0, .bool false, .bool false, .slice none 0 0] 29 (0, 0)) h35 (by kernel_rfl) (by kernel_rfl) (by kernel_rfl) gok_none (fun _ => by kernel_rfl) hB32 (fun _ _ hq => trivial) (fun b38 w39 hB40 hN q36 h37 => ?_)
  clear h35 hB32 hN
  refine stWs (i := 2) (ty := 0) (t := 29) (x := Operand.tmp 3) (y := Operand.tmp 7) (g := none) 0 0 (b := b38) (T := 29) (cs := [.string (⟨#[]⟩ : ByteArray), .int .i64 0, .string (⟨#[]⟩ : ByteArray), .string (⟨#[]⟩ : ByteArray), .int .i64 0, .string (⟨#[]⟩ : ByteArray), .int .i64 0, .int .i64 0, .int .i64 0, .int .i64 0, .int .i64 0, .bool false, .int .i64 0, .bool false, .bool false, .slice none 0 0]) (vs := [.string (⟨#[68, 49]⟩ : ByteArray), .int .i64 1, .string (⟨#[66, 65, 78, 75, 65]⟩ : ByteArray), .string (⟨#[66, 65, 78, 75, 66]⟩ : ByteArray), .int .i64 0, .string (⟨#[85, 83, 48, 51, 55, 56, 51, 51, 49, 48, 48, 53]⟩ : ByteArray), .int .i64 100, .int .i64 2500000, .int .i64 9811, .int .i64 9815, .int .i64 0, .bool false, .int .i64 10, .bool false, .bool false, .slice none 0 0]) (cs' := [.string (⟨#[68, 49]⟩ : ByteArray), .int .i64 1, .string (⟨#[66, 65, 78, 75, 65]⟩ : ByteArray), .string (⟨#[66, 65, 78, 75, 66]⟩ : ByteArray), .int .i64 0, .string (⟨#[85, 83, 48, 51, 55, 56, 51, 51, 49, 48, 48, 53]⟩ : ByteArray), .int .i64 100, .int .i64 2500000, .int .i64 9811, .int .i64 9815, .int .i64 0, .bool false, .int .i64 10, .bool false, .bool false, .slice none 0 0]) h37 (by kernel_rfl) (by kernel_rfl) gok_none hB40 (by kernel_rfl) (by kernel_rfl) (by kernel_rfl) (by kernel_rfl) (by kernel_rfl) (by kernel_rfl) (by kernel_rfl) (.inr fun _ _ => trivial) (fun w43 hB44 hT q41 h42 => ?_)
  replace hB44 : Bx w [(b38, .cells #[.string (⟨#[68, 49]⟩ : ByteArray), .int .i64 1, .string (⟨#[66, 65, 78, 75, 65]⟩ : ByteArray), .string (⟨#[66, 65, 78, 75, 66]⟩ : ByteArray), .int .i64 0, .string (⟨#[85, 83, 48, 51, 55, 56, 51, 51, 49, 48, 48, 53]⟩ : ByteArray), .int .i64 100, .int .i64 2500000, .int .i64 9811, .int .i64 9815, .int .i64 0, .bool false, .int .i64 10, .bool false, .bool false, .slice none 0 0] 29 (0, 0)), (b19, .cells #[.string (⟨#[68, 49]⟩ : ByteArray), .int .i64 1, .string (⟨#[66, 65, 78, 75, 65]⟩ : ByteArray), .string (⟨#[66, 65, 78, 75, 66]⟩ : ByteArray), .int .i64 0, .string (⟨#[85, 83, 48, 51, 55, 56, 51, 51, 49, 48, 48, 53]⟩ : ByteArray), .int .i64 100, .int .i64 2500000, .int .i64 9811, .int .i64 9815, .int .i64 0, .bool false, .int .i64 10, .bool false, .bool false, .slice none 0 0] 29 (0, 0)), (b7, .cells #[.string (⟨#[68, 49]⟩ : ByteArray), .int .i64 1, .string (⟨#[66, 65, 78, 75, 65]⟩ : ByteArray), .string (⟨#[66, 65, 78, 75, 66]⟩ : ByteArray), .int .i64 0, .string (⟨#[85, 83, 48, 51, 55, 56, 51, 51, 49, 48, 48, 53]⟩ : ByteArray), .int .i64 100, .int .i64 2500000, .int .i64 9811, .int .i64 9815, .int .i64 0, .bool false, .int .i64 0, .bool false, .bool false, .slice none 0 0] 29 (0, 0))] w43 := hB44
  clear h37 hB40
  clear hT
  refine wpO_end ?_
  have h45 := h42.keep [(3, .pointer (some ⟨b38, 0, none⟩)), (2, .pointer (some ⟨b19, 0, none⟩)), (1, .pointer (some ⟨b7, 0, none⟩)), (0, .bool false)] ⟨rfl, rfl, rfl, rfl, trivial⟩
  clear h42
  refine then_n ?_
  refine c_seq (by kernel_rfl) ?_
  refine reg_plain [(0, false), (1, false)] (by kernel_rfl) (by kernel_rfl) ?_
  refine eE 0 8 (.fieldAddr 29 (.tmp 3) 11) 0 (.pointer (some ⟨b38, 11, none⟩)) h45 fun q46 h47 => ?_
  clear h45
  refine stWs (i := 1) (ty := 0) (t := 4) (x := Operand.tmp 8) (y := Operand.const (Value.bool true)) (g := none) 0 11 (b := b38) (T := 29) (cs := [.string (⟨#[68, 49]⟩ : ByteArray), .int .i64 1, .string (⟨#[66, 65, 78, 75, 65]⟩ : ByteArray), .string (⟨#[66, 65, 78, 75, 66]⟩ : ByteArray), .int .i64 0, .string (⟨#[85, 83, 48, 51, 55, 56, 51, 51, 49, 48, 48, 53]⟩ : ByteArray), .int .i64 100, .int .i64 2500000, .int .i64 9811, .int .i64 9815, .int .i64 0, .bool false, .int .i64 10, .bool false, .bool false, .slice none 0 0]) (vs := [.bool true]) (cs' := [.string (⟨#[68, 49]⟩ : ByteArray), .int .i64 1, .string (⟨#[66, 65, 78, 75, 65]⟩ : ByteArray), .string (⟨#[66, 65, 78, 75, 66]⟩ : ByteArray), .int .i64 0, .string (⟨#[85, 83, 48, 51, 55, 56, 51, 51, 49, 48, 48, 53]⟩ : ByteArray), .int .i64 100, .int .i64 2500000, .int .i64 9811, .int .i64 9815, .int .i64 0, .bool true, .int .i64 10, .bool false, .bool false, .slice none 0 0]) h47 (by kernel_rfl) (by kernel_rfl) gok_none hB44 (by kernel_rfl) (by kernel_rfl) (by kernel_rfl) (by kernel_rfl) (by kernel_rfl) (by kernel_rfl) (by kernel_rfl) (.inr fun _ _ => trivial) (fun w50 hB51 hT q48 h49 => ?_)
  replace hB51 : Bx w [(b38, .cells #[.string (⟨#[68, 49]⟩ : ByteArray), .int .i64 1, .string (⟨#[66, 65, 78, 75, 65]⟩ : ByteArray), .string (⟨#[66, 65, 78, 75, 66]⟩ : ByteArray), .int .i64 0, .string (⟨#[85, 83, 48, 51, 55, 56, 51, 51, 49, 48, 48, 53]⟩ : ByteArray), .int .i64 100, .int .i64 2500000, .int .i64 9811, .int .i64 9815, .int .i64 0, .bool true, .int .i64 10, .bool false, .bool false, .slice none 0 0] 29 (0, 0)), (b19, .cells #[.string (⟨#[68, 49]⟩ : ByteArray), .int .i64 1, .string (⟨#[66, 65, 78, 75, 65]⟩ : ByteArray), .string (⟨#[66, 65, 78, 75, 66]⟩ : ByteArray), .int .i64 0, .string (⟨#[85, 83, 48, 51, 55, 56, 51, 51, 49, 48, 48, 53]⟩ : ByteArray), .int .i64 100, .int .i64 2500000, .int .i64 9811, .int .i64 9815, .int .i64 0, .bool false, .int .i64 10, .bool false, .bool false, .slice none 0 0] 29 (0, 0)), (b7, .cells #[.string (⟨#[68, 49]⟩ : ByteArray), .int .i64 1, .string (⟨#[66, 65, 78, 75, 65]⟩ : ByteArray), .string (⟨#[66, 65, 78, 75, 66]⟩ : ByteArray), .int .i64 0, .string (⟨#[85, 83, 48, 51, 55, 56, 51, 51, 49, 48, 48, 53]⟩ : ByteArray), .int .i64 100, .int .i64 2500000, .int .i64 9811, .int .i64 9815, .int .i64 0, .bool false, .int .i64 0, .bool false, .bool false, .slice none 0 0] 29 (0, 0))] w50 := hB51
  clear h47 hB44
  clear hT
  refine wpO_end ?_
  have h52 := h49.keep [(3, .pointer (some ⟨b38, 0, none⟩)), (2, .pointer (some ⟨b19, 0, none⟩)), (1, .pointer (some ⟨b7, 0, none⟩)), (0, .bool false)] ⟨rfl, rfl, rfl, rfl, trivial⟩
  clear h49
  refine then_n ?_
  refine c_seq (by kernel_rfl) ?_
  refine reg_plain [(0, false), (1, false), (2, false), (3, false), (4, false), (5, false), (6, false), (7, false), (8, false), (9, false), (10, false), (11, false), (12, false), (13, false), (14, false), (15, false), (16, false), (17, false), (18, false), (19, false), (20, false), (21, false), (22, false)] (by kernel_rfl) (by kernel_rfl) ?_
  refine eE 0 9 (.load 29 (.tmp 1)) 29 (.agg #[.string (⟨#[68, 49]⟩ : ByteArray), .int .i64 1, .string (⟨#[66, 65, 78, 75, 65]⟩ : ByteArray), .string (⟨#[66, 65, 78, 75, 66]⟩ : ByteArray), .int .i64 0, .string (⟨#[85, 83, 48, 51, 55, 56, 51, 51, 49, 48, 48, 53]⟩ : ByteArray), .int .i64 100, .int .i64 2500000, .int .i64 9811, .int .i64 9815, .int .i64 0, .bool false, .int .i64 0, .bool false, .bool false, .slice none 0 0]) h52 (hr := r_loadS (b := b7) (vs := [.string (⟨#[68, 49]⟩ : ByteArray), .int .i64 1, .string (⟨#[66, 65, 78, 75, 65]⟩ : ByteArray), .string (⟨#[66, 65, 78, 75, 66]⟩ : ByteArray), .int .i64 0, .string (⟨#[85, 83, 48, 51, 55, 56, 51, 51, 49, 48, 48, 53]⟩ : ByteArray), .int .i64 100, .int .i64 2500000, .int .i64 9811, .int .i64 9815, .int .i64 0, .bool false, .int .i64 0, .bool false, .bool false, .slice none 0 0]) hB51 2 0 (by kernel_rfl) (by kernel_rfl) (by kernel_rfl)) fun q53 h54 => ?_
  clear h52
  refine stC (i := 1) (d := 10) (op := Op.call { callee := Callee.value (Operand.func 14), args := #[Operand.tmp 9], argTypes := #[29] }) (ty := 26) (g := none) (f := 14) (args := #[.agg #[.string (⟨#[68, 49]⟩ : ByteArray), .int .i64 1, .string (⟨#[66, 65, 78, 75, 65]⟩ : ByteArray), .string (⟨#[66, 65, 78, 75, 66]⟩ : ByteArray), .int .i64 0, .string (⟨#[85, 83, 48, 51, 55, 56, 51, 51, 49, 48, 48, 53]⟩ : ByteArray), .int .i64 100, .int .i64 2500000, .int .i64 9811, .int .i64 9815, .int .i64 0, .bool false, .int .i64 0, .bool false, .bool false, .slice none 0 0]]) (w1 := w50) h54 (by kernel_rfl) (by kernel_rfl) (by kernel_rfl) gok_none (by kernel_rfl) (c14 (⟨(⟨#[68, 49]⟩ : ByteArray), 1, (⟨#[66, 65, 78, 75, 65]⟩ : ByteArray), (⟨#[66, 65, 78, 75, 66]⟩ : ByteArray), 0, (⟨#[85, 83, 48, 51, 55, 56, 51, 51, 49, 48, 48, 53]⟩ : ByteArray), 100, 2500000, 9811, 9815, 0, false, 0, false, false, []⟩ : Ins) none 0 w50 (Nat.zero_le _) (Nat.zero_le _) (Rd.nil _ _)) ?_
  rintro _ w57 ⟨rfl, hb58⟩
  have hB59 := hB51.call hb58
  refine ⟨_, rfl, trivial, fun q55 h56 => ?_⟩
  clear h54 hB51 hb58
  refine eE 2 11 (.binOp .eql 26 (.tmp 10) (.const (.int .i64 0)) 26) 4 (.bool (chkI (⟨(⟨#[68, 49]⟩ : ByteArray), 1, (⟨#[66, 65, 78, 75, 65]⟩ : ByteArray), (⟨#[66, 65, 78, 75, 66]⟩ : ByteArray), 0, (⟨#[85, 83, 48, 51, 55, 56, 51, 51, 49, 48, 48, 53]⟩ : ByteArray), 100, 2500000, 9811, 9815, 0, false, 0, false, false, []⟩ : Ins) == (0 : Int))) h56 fun q60 h61 => ?_
  clear h56
  have h62 := h61.keep [(11, .bool true), (10, .int .i64 (chkI (⟨(⟨#[68, 49]⟩ : ByteArray), 1, (⟨#[66, 65, 78, 75, 65]⟩ : ByteArray), (⟨#[66, 65, 78, 75, 66]⟩ : ByteArray), 0, (⟨#[85, 83, 48, 51, 55, 56, 51, 51, 49, 48, 48, 53]⟩ : ByteArray), 100, 2500000, 9811, 9815, 0, false, 0, false, false, []⟩ : Ins))), (9, .agg #[.string (⟨#[68, 49]⟩ : ByteArray), .int .i64 1, .string (⟨#[66, 65, 78, 75, 65]⟩ : ByteArray), .string (⟨#[66, 65, 78, 75, 66]⟩ : ByteArray), .int .i64 0, .string (⟨#[85, 83, 48, 51, 55, 56, 51, 51, 49, 48, 48, 53]⟩ : ByteArray), .int .i64 100, .int .i64 2500000, .int .i64 9811, .int .i64 9815, .int .i64 0, .bool false, .int .i64 0, .bool false, .bool false, .slice none 0 0]), (3, .pointer (some ⟨b38, 0, none⟩)), (2, .pointer (some ⟨b19, 0, none⟩)), (1, .pointer (some ⟨b7, 0, none⟩)), (0, .bool false)] ⟨by kernel_rfl, rfl, rfl, rfl, rfl, rfl, rfl, trivial⟩
  clear h61
  refine eE 3 12 (.move (.tmp 11)) 4 (.bool true) h62 fun q63 h64 => ?_
  clear h62
  refine eG 4 13 (.load 29 (.tmp 2)) 29 (3, true) (.agg #[.string (⟨#[68, 49]⟩ : ByteArray), .int .i64 1, .string (⟨#[66, 65, 78, 75, 65]⟩ : ByteArray), .string (⟨#[66, 65, 78, 75, 66]⟩ : ByteArray), .int .i64 0, .string (⟨#[85, 83, 48, 51, 55, 56, 51, 51, 49, 48, 48, 53]⟩ : ByteArray), .int .i64 100, .int .i64 2500000, .int .i64 9811, .int .i64 9815, .int .i64 0, .bool false, .int .i64 10, .bool false, .bool false, .slice none 0 0]) (g1 12 (rfl : true = true)) h64 (hr := r_loadS (b := b19) (vs := [.string (⟨#[68, 49]⟩ : ByteArray), .int .i64 1, .string (⟨#[66, 65, 78, 75, 65]⟩ : ByteArray), .string (⟨#[66, 65, 78, 75, 66]⟩ : ByteArray), .int .i64 0, .string (⟨#[85, 83, 48, 51, 55, 56, 51, 51, 49, 48, 48, 53]⟩ : ByteArray), .int .i64 100, .int .i64 2500000, .int .i64 9811, .int .i64 9815, .int .i64 0, .bool false, .int .i64 10, .bool false, .bool false, .slice none 0 0]) hB59 1 0 (by kernel_rfl) (by kernel_rfl) (by kernel_rfl)) fun q65 h66 => ?_
  clear h64
  refine stC (i := 5) (d := 14) (op := Op.call { callee := Callee.value (Operand.func 14), args := #[Operand.tmp 13], argTypes := #[29] }) (ty := 26) (g := (some (3, true))) (f := 14) (args := #[.agg #[.string (⟨#[68, 49]⟩ : ByteArray), .int .i64 1, .string (⟨#[66, 65, 78, 75, 65]⟩ : ByteArray), .string (⟨#[66, 65, 78, 75, 66]⟩ : ByteArray), .int .i64 0, .string (⟨#[85, 83, 48, 51, 55, 56, 51, 51, 49, 48, 48, 53]⟩ : ByteArray), .int .i64 100, .int .i64 2500000, .int .i64 9811, .int .i64 9815, .int .i64 0, .bool false, .int .i64 10, .bool false, .bool false, .slice none 0 0]]) (w1 := w57) h66 (by kernel_rfl) (by kernel_rfl) (by kernel_rfl) (g1 12 (rfl : true = true)) (by kernel_rfl) (c14 (⟨(⟨#[68, 49]⟩ : ByteArray), 1, (⟨#[66, 65, 78, 75, 65]⟩ : ByteArray), (⟨#[66, 65, 78, 75, 66]⟩ : ByteArray), 0, (⟨#[85, 83, 48, 51, 55, 56, 51, 51, 49, 48, 48, 53]⟩ : ByteArray), 100, 2500000, 9811, 9815, 0, false, 10, false, false, []⟩ : Ins) none 0 w57 (Nat.zero_le _) (Nat.zero_le _) (Rd.nil _ _)) ?_
  rintro _ w69 ⟨rfl, hb70⟩
  have hB71 := hB59.call hb70
  refine ⟨_, rfl, trivial, fun q67 h68 => ?_⟩
  clear h66 hB59 hb70
  refine eG 6 15 (.binOp .eql 26 (.tmp 14) (.const (.int .i64 2)) 26) 4 (3, true) (.bool (chkI (⟨(⟨#[68, 49]⟩ : ByteArray), 1, (⟨#[66, 65, 78, 75, 65]⟩ : ByteArray), (⟨#[66, 65, 78, 75, 66]⟩ : ByteArray), 0, (⟨#[85, 83, 48, 51, 55, 56, 51, 51, 49, 48, 48, 53]⟩ : ByteArray), 100, 2500000, 9811, 9815, 0, false, 10, false, false, []⟩ : Ins) == (2 : Int))) (g1 12 (rfl : true = true)) h68 fun q72 h73 => ?_
  clear h68
  have h74 := h73.keep [(15, .bool true), (14, .int .i64 (chkI (⟨(⟨#[68, 49]⟩ : ByteArray), 1, (⟨#[66, 65, 78, 75, 65]⟩ : ByteArray), (⟨#[66, 65, 78, 75, 66]⟩ : ByteArray), 0, (⟨#[85, 83, 48, 51, 55, 56, 51, 51, 49, 48, 48, 53]⟩ : ByteArray), 100, 2500000, 9811, 9815, 0, false, 10, false, false, []⟩ : Ins))), (13, .agg #[.string (⟨#[68, 49]⟩ : ByteArray), .int .i64 1, .string (⟨#[66, 65, 78, 75, 65]⟩ : ByteArray), .string (⟨#[66, 65, 78, 75, 66]⟩ : ByteArray), .int .i64 0, .string (⟨#[85, 83, 48, 51, 55, 56, 51, 51, 49, 48, 48, 53]⟩ : ByteArray), .int .i64 100, .int .i64 2500000, .int .i64 9811, .int .i64 9815, .int .i64 0, .bool false, .int .i64 10, .bool false, .bool false, .slice none 0 0]), (12, .bool true), (11, .bool true), (10, .int .i64 (chkI (⟨(⟨#[68, 49]⟩ : ByteArray), 1, (⟨#[66, 65, 78, 75, 65]⟩ : ByteArray), (⟨#[66, 65, 78, 75, 66]⟩ : ByteArray), 0, (⟨#[85, 83, 48, 51, 55, 56, 51, 51, 49, 48, 48, 53]⟩ : ByteArray), 100, 2500000, 9811, 9815, 0, false, 0, false, false, []⟩ : Ins))), (9, .agg #[.string (⟨#[68, 49]⟩ : ByteArray), .int .i64 1, .string (⟨#[66, 65, 78, 75, 65]⟩ : ByteArray), .string (⟨#[66, 65, 78, 75, 66]⟩ : ByteArray), .int .i64 0, .string (⟨#[85, 83, 48, 51, 55, 56, 51, 51, 49, 48, 48, 53]⟩ : ByteArray), .int .i64 100, .int .i64 2500000, .int .i64 9811, .int .i64 9815, .int .i64 0, .bool false, .int .i64 0, .bool false, .bool false, .slice none 0 0]), (3, .pointer (some ⟨b38, 0, none⟩)), (2, .pointer (some ⟨b19, 0, none⟩)), (1, .pointer (some ⟨b7, 0, none⟩)), (0, .bool false)] ⟨by kernel_rfl, rfl, rfl, rfl, rfl, rfl, rfl, rfl, rfl, rfl, rfl, trivial⟩
  clear h73
  refine eE 7 16 (.pick (.tmp 12) (.tmp 15) (.const (.bool false))) 4 (.bool true) h74 fun q75 h76 => ?_
  clear h74
  refine eE 8 17 (.move (.tmp 16)) 4 (.bool true) h76 fun q77 h78 => ?_
  clear h76
  refine eG 9 18 (.load 29 (.tmp 3)) 29 (8, true) (.agg #[.string (⟨#[68, 49]⟩ : ByteArray), .int .i64 1, .string (⟨#[66, 65, 78, 75, 65]⟩ : ByteArray), .string (⟨#[66, 65, 78, 75, 66]⟩ : ByteArray), .int .i64 0, .string (⟨#[85, 83, 48, 51, 55, 56, 51, 51, 49, 48, 48, 53]⟩ : ByteArray), .int .i64 100, .int .i64 2500000, .int .i64 9811, .int .i64 9815, .int .i64 0, .bool true, .int .i64 10, .bool false, .bool false, .slice none 0 0]) (g1 17 (rfl : true = true)) h78 (hr := r_loadS (b := b38) (vs := [.string (⟨#[68, 49]⟩ : ByteArray), .int .i64 1, .string (⟨#[66, 65, 78, 75, 65]⟩ : ByteArray), .string (⟨#[66, 65, 78, 75, 66]⟩ : ByteArray), .int .i64 0, .string (⟨#[85, 83, 48, 51, 55, 56, 51, 51, 49, 48, 48, 53]⟩ : ByteArray), .int .i64 100, .int .i64 2500000, .int .i64 9811, .int .i64 9815, .int .i64 0, .bool true, .int .i64 10, .bool false, .bool false, .slice none 0 0]) hB71 0 0 (by kernel_rfl) (by kernel_rfl) (by kernel_rfl)) fun q79 h80 => ?_
  clear h78
  refine stC (i := 10) (d := 19) (op := Op.call { callee := Callee.value (Operand.func 14), args := #[Operand.tmp 18], argTypes := #[29] }) (ty := 26) (g := (some (8, true))) (f := 14) (args := #[.agg #[.string (⟨#[68, 49]⟩ : ByteArray), .int .i64 1, .string (⟨#[66, 65, 78, 75, 65]⟩ : ByteArray), .string (⟨#[66, 65, 78, 75, 66]⟩ : ByteArray), .int .i64 0, .string (⟨#[85, 83, 48, 51, 55, 56, 51, 51, 49, 48, 48, 53]⟩ : ByteArray), .int .i64 100, .int .i64 2500000, .int .i64 9811, .int .i64 9815, .int .i64 0, .bool true, .int .i64 10, .bool false, .bool false, .slice none 0 0]]) (w1 := w69) h80 (by kernel_rfl) (by kernel_rfl) (by kernel_rfl) (g1 17 (rfl : true = true)) (by kernel_rfl) (c14 (⟨(⟨#[68, 49]⟩ : ByteArray), 1, (⟨#[66, 65, 78, 75, 65]⟩ : ByteArray), (⟨#[66, 65, 78, 75, 66]⟩ : ByteArray), 0, (⟨#[85, 83, 48, 51, 55, 56, 51, 51, 49, 48, 48, 53]⟩ : ByteArray), 100, 2500000, 9811, 9815, 0, true, 10, false, false, []⟩ : Ins) none 0 w69 (Nat.zero_le _) (Nat.zero_le _) (Rd.nil _ _)) ?_
  rintro _ w83 ⟨rfl, hb84⟩
  have hB85 := hB71.call hb84
  refine ⟨_, rfl, trivial, fun q81 h82 => ?_⟩
  clear h80 hB71 hb84
  refine eG 11 20 (.binOp .eql 26 (.tmp 19) (.const (.int .i64 0)) 26) 4 (8, true) (.bool (chkI (⟨(⟨#[68, 49]⟩ : ByteArray), 1, (⟨#[66, 65, 78, 75, 65]⟩ : ByteArray), (⟨#[66, 65, 78, 75, 66]⟩ : ByteArray), 0, (⟨#[85, 83, 48, 51, 55, 56, 51, 51, 49, 48, 48, 53]⟩ : ByteArray), 100, 2500000, 9811, 9815, 0, true, 10, false, false, []⟩ : Ins) == (0 : Int))) (g1 17 (rfl : true = true)) h82 fun q86 h87 => ?_
  clear h82
  have h88 := h87.keep [(20, .bool true), (19, .int .i64 (chkI (⟨(⟨#[68, 49]⟩ : ByteArray), 1, (⟨#[66, 65, 78, 75, 65]⟩ : ByteArray), (⟨#[66, 65, 78, 75, 66]⟩ : ByteArray), 0, (⟨#[85, 83, 48, 51, 55, 56, 51, 51, 49, 48, 48, 53]⟩ : ByteArray), 100, 2500000, 9811, 9815, 0, true, 10, false, false, []⟩ : Ins))), (18, .agg #[.string (⟨#[68, 49]⟩ : ByteArray), .int .i64 1, .string (⟨#[66, 65, 78, 75, 65]⟩ : ByteArray), .string (⟨#[66, 65, 78, 75, 66]⟩ : ByteArray), .int .i64 0, .string (⟨#[85, 83, 48, 51, 55, 56, 51, 51, 49, 48, 48, 53]⟩ : ByteArray), .int .i64 100, .int .i64 2500000, .int .i64 9811, .int .i64 9815, .int .i64 0, .bool true, .int .i64 10, .bool false, .bool false, .slice none 0 0]), (17, .bool true), (16, .bool true), (15, .bool true), (14, .int .i64 (chkI (⟨(⟨#[68, 49]⟩ : ByteArray), 1, (⟨#[66, 65, 78, 75, 65]⟩ : ByteArray), (⟨#[66, 65, 78, 75, 66]⟩ : ByteArray), 0, (⟨#[85, 83, 48, 51, 55, 56, 51, 51, 49, 48, 48, 53]⟩ : ByteArray), 100, 2500000, 9811, 9815, 0, false, 10, false, false, []⟩ : Ins))), (13, .agg #[.string (⟨#[68, 49]⟩ : ByteArray), .int .i64 1, .string (⟨#[66, 65, 78, 75, 65]⟩ : ByteArray), .string (⟨#[66, 65, 78, 75, 66]⟩ : ByteArray), .int .i64 0, .string (⟨#[85, 83, 48, 51, 55, 56, 51, 51, 49, 48, 48, 53]⟩ : ByteArray), .int .i64 100, .int .i64 2500000, .int .i64 9811, .int .i64 9815, .int .i64 0, .bool false, .int .i64 10, .bool false, .bool false, .slice none 0 0]), (12, .bool true), (11, .bool true), (10, .int .i64 (chkI (⟨(⟨#[68, 49]⟩ : ByteArray), 1, (⟨#[66, 65, 78, 75, 65]⟩ : ByteArray), (⟨#[66, 65, 78, 75, 66]⟩ : ByteArray), 0, (⟨#[85, 83, 48, 51, 55, 56, 51, 51, 49, 48, 48, 53]⟩ : ByteArray), 100, 2500000, 9811, 9815, 0, false, 0, false, false, []⟩ : Ins))), (9, .agg #[.string (⟨#[68, 49]⟩ : ByteArray), .int .i64 1, .string (⟨#[66, 65, 78, 75, 65]⟩ : ByteArray), .string (⟨#[66, 65, 78, 75, 66]⟩ : ByteArray), .int .i64 0, .string (⟨#[85, 83, 48, 51, 55, 56, 51, 51, 49, 48, 48, 53]⟩ : ByteArray), .int .i64 100, .int .i64 2500000, .int .i64 9811, .int .i64 9815, .int .i64 0, .bool false, .int .i64 0, .bool false, .bool false, .slice none 0 0]), (3, .pointer (some ⟨b38, 0, none⟩)), (2, .pointer (some ⟨b19, 0, none⟩)), (1, .pointer (some ⟨b7, 0, none⟩)), (0, .bool false)] ⟨by kernel_rfl, rfl, rfl, rfl, rfl, rfl, rfl, rfl, rfl, rfl, rfl, rfl, rfl, rfl, rfl, rfl, trivial⟩
  clear h87
  refine eE 12 21 (.pick (.tmp 17) (.tmp 20) (.const (.bool false))) 4 (.bool true) h88 fun q89 h90 => ?_
  clear h88
  refine eE 13 22 (.move (.tmp 21)) 4 (.bool true) h90 fun q91 h92 => ?_
  clear h90
  refine eG 14 23 (.load 29 (.tmp 1)) 29 (13, true) (.agg #[.string (⟨#[68, 49]⟩ : ByteArray), .int .i64 1, .string (⟨#[66, 65, 78, 75, 65]⟩ : ByteArray), .string (⟨#[66, 65, 78, 75, 66]⟩ : ByteArray), .int .i64 0, .string (⟨#[85, 83, 48, 51, 55, 56, 51, 51, 49, 48, 48, 53]⟩ : ByteArray), .int .i64 100, .int .i64 2500000, .int .i64 9811, .int .i64 9815, .int .i64 0, .bool false, .int .i64 0, .bool false, .bool false, .slice none 0 0]) (g1 22 (rfl : true = true)) h92 (hr := r_loadS (b := b7) (vs := [.string (⟨#[68, 49]⟩ : ByteArray), .int .i64 1, .string (⟨#[66, 65, 78, 75, 65]⟩ : ByteArray), .string (⟨#[66, 65, 78, 75, 66]⟩ : ByteArray), .int .i64 0, .string (⟨#[85, 83, 48, 51, 55, 56, 51, 51, 49, 48, 48, 53]⟩ : ByteArray), .int .i64 100, .int .i64 2500000, .int .i64 9811, .int .i64 9815, .int .i64 0, .bool false, .int .i64 0, .bool false, .bool false, .slice none 0 0]) hB85 2 0 (by kernel_rfl) (by kernel_rfl) (by kernel_rfl)) fun q93 h94 => ?_
  clear h92
  refine stC (i := 15) (d := 24) (op := Op.call { callee := Callee.value (Operand.func 16), args := #[Operand.tmp 23], argTypes := #[29] }) (ty := 9) (g := (some (13, true))) (f := 16) (args := #[.agg #[.string (⟨#[68, 49]⟩ : ByteArray), .int .i64 1, .string (⟨#[66, 65, 78, 75, 65]⟩ : ByteArray), .string (⟨#[66, 65, 78, 75, 66]⟩ : ByteArray), .int .i64 0, .string (⟨#[85, 83, 48, 51, 55, 56, 51, 51, 49, 48, 48, 53]⟩ : ByteArray), .int .i64 100, .int .i64 2500000, .int .i64 9811, .int .i64 9815, .int .i64 0, .bool false, .int .i64 0, .bool false, .bool false, .slice none 0 0]]) (w1 := w83) h94 (by kernel_rfl) (by kernel_rfl) (by kernel_rfl) (g1 22 (rfl : true = true)) (by kernel_rfl) (c16 (⟨(⟨#[68, 49]⟩ : ByteArray), 1, (⟨#[66, 65, 78, 75, 65]⟩ : ByteArray), (⟨#[66, 65, 78, 75, 66]⟩ : ByteArray), 0, (⟨#[85, 83, 48, 51, 55, 56, 51, 51, 49, 48, 48, 53]⟩ : ByteArray), 100, 2500000, 9811, 9815, 0, false, 0, false, false, []⟩ : Ins) none 0 w83) ?_
  rintro _ w97 ⟨rfl, hb98⟩
  have hB99 := hB85.call hb98
  refine ⟨_, rfl, trivial, fun q95 h96 => ?_⟩
  clear h94 hB85 hb98
  refine eG 16 25 (.binOp .eql 9 (.tmp 24) (.const (.string { data := #[66, 65, 78, 75, 65] })) 9) 4 (13, true) (.bool ((delB (⟨(⟨#[68, 49]⟩ : ByteArray), 1, (⟨#[66, 65, 78, 75, 65]⟩ : ByteArray), (⟨#[66, 65, 78, 75, 66]⟩ : ByteArray), 0, (⟨#[85, 83, 48, 51, 55, 56, 51, 51, 49, 48, 48, 53]⟩ : ByteArray), 100, 2500000, 9811, 9815, 0, false, 0, false, false, []⟩ : Ins)).toList == (⟨#[66, 65, 78, 75, 65]⟩ : ByteArray).toList)) (g1 22 (rfl : true = true)) h96 fun q100 h101 => ?_
  clear h96
  have h102 := h101.keep [(25, .bool true), (24, .string (delB (⟨(⟨#[68, 49]⟩ : ByteArray), 1, (⟨#[66, 65, 78, 75, 65]⟩ : ByteArray), (⟨#[66, 65, 78, 75, 66]⟩ : ByteArray), 0, (⟨#[85, 83, 48, 51, 55, 56, 51, 51, 49, 48, 48, 53]⟩ : ByteArray), 100, 2500000, 9811, 9815, 0, false, 0, false, false, []⟩ : Ins))), (23, .agg #[.string (⟨#[68, 49]⟩ : ByteArray), .int .i64 1, .string (⟨#[66, 65, 78, 75, 65]⟩ : ByteArray), .string (⟨#[66, 65, 78, 75, 66]⟩ : ByteArray), .int .i64 0, .string (⟨#[85, 83, 48, 51, 55, 56, 51, 51, 49, 48, 48, 53]⟩ : ByteArray), .int .i64 100, .int .i64 2500000, .int .i64 9811, .int .i64 9815, .int .i64 0, .bool false, .int .i64 0, .bool false, .bool false, .slice none 0 0]), (22, .bool true), (21, .bool true), (20, .bool true), (19, .int .i64 (chkI (⟨(⟨#[68, 49]⟩ : ByteArray), 1, (⟨#[66, 65, 78, 75, 65]⟩ : ByteArray), (⟨#[66, 65, 78, 75, 66]⟩ : ByteArray), 0, (⟨#[85, 83, 48, 51, 55, 56, 51, 51, 49, 48, 48, 53]⟩ : ByteArray), 100, 2500000, 9811, 9815, 0, true, 10, false, false, []⟩ : Ins))), (18, .agg #[.string (⟨#[68, 49]⟩ : ByteArray), .int .i64 1, .string (⟨#[66, 65, 78, 75, 65]⟩ : ByteArray), .string (⟨#[66, 65, 78, 75, 66]⟩ : ByteArray), .int .i64 0, .string (⟨#[85, 83, 48, 51, 55, 56, 51, 51, 49, 48, 48, 53]⟩ : ByteArray), .int .i64 100, .int .i64 2500000, .int .i64 9811, .int .i64 9815, .int .i64 0, .bool true, .int .i64 10, .bool false, .bool false, .slice none 0 0]), (17, .bool true), (16, .bool true), (15, .bool true), (14, .int .i64 (chkI (⟨(⟨#[68, 49]⟩ : ByteArray), 1, (⟨#[66, 65, 78, 75, 65]⟩ : ByteArray), (⟨#[66, 65, 78, 75, 66]⟩ : ByteArray), 0, (⟨#[85, 83, 48, 51, 55, 56, 51, 51, 49, 48, 48, 53]⟩ : ByteArray), 100, 2500000, 9811, 9815, 0, false, 10, false, false, []⟩ : Ins))), (13, .agg #[.string (⟨#[68, 49]⟩ : ByteArray), .int .i64 1, .string (⟨#[66, 65, 78, 75, 65]⟩ : ByteArray), .string (⟨#[66, 65, 78, 75, 66]⟩ : ByteArray), .int .i64 0, .string (⟨#[85, 83, 48, 51, 55, 56, 51, 51, 49, 48, 48, 53]⟩ : ByteArray), .int .i64 100, .int .i64 2500000, .int .i64 9811, .int .i64 9815, .int .i64 0, .bool false, .int .i64 10, .bool false, .bool false, .slice none 0 0]), (12, .bool true), (11, .bool true), (10, .int .i64 (chkI (⟨(⟨#[68, 49]⟩ : ByteArray), 1, (⟨#[66, 65, 78, 75, 65]⟩ : ByteArray), (⟨#[66, 65, 78, 75, 66]⟩ : ByteArray), 0, (⟨#[85, 83, 48, 51, 55, 56, 51, 51, 49, 48, 48, 53]⟩ : ByteArray), 100, 2500000, 9811, 9815, 0, false, 0, false, false, []⟩ : Ins))), (9, .agg #[.string (⟨#[68, 49]⟩ : ByteArray), .int .i64 1, .string (⟨#[66, 65, 78, 75, 65]⟩ : ByteArray), .string (⟨#[66, 65, 78, 75, 66]⟩ : ByteArray), .int .i64 0, .string (⟨#[85, 83, 48, 51, 55, 56, 51, 51, 49, 48, 48, 53]⟩ : ByteArray), .int .i64 100, .int .i64 2500000, .int .i64 9811, .int .i64 9815, .int .i64 0, .bool false, .int .i64 0, .bool false, .bool false, .slice none 0 0]), (3, .pointer (some ⟨b38, 0, none⟩)), (2, .pointer (some ⟨b19, 0, none⟩)), (1, .pointer (some ⟨b7, 0, none⟩)), (0, .bool false)] ⟨by kernel_rfl, rfl, rfl, rfl, rfl, rfl, rfl, rfl, rfl, rfl, rfl, rfl, rfl, rfl, rfl, rfl, rfl, rfl, rfl, rfl, rfl, trivial⟩
  clear h101
  refine eE 17 26 (.pick (.tmp 22) (.tmp 25) (.const (.bool false))) 4 (.bool true) h102 fun q103 h104 => ?_
  clear h102
  refine eE 18 27 (.move (.tmp 26)) 4 (.bool true) h104 fun q105 h106 => ?_
  clear h104
  refine eG 19 28 (.load 29 (.tmp 1)) 29 (18, true) (.agg #[.string (⟨#[68, 49]⟩ : ByteArray), .int .i64 1, .string (⟨#[66, 65, 78, 75, 65]⟩ : ByteArray), .string (⟨#[66, 65, 78, 75, 66]⟩ : ByteArray), .int .i64 0, .string (⟨#[85, 83, 48, 51, 55, 56, 51, 51, 49, 48, 48, 53]⟩ : ByteArray), .int .i64 100, .int .i64 2500000, .int .i64 9811, .int .i64 9815, .int .i64 0, .bool false, .int .i64 0, .bool false, .bool false, .slice none 0 0]) (g1 27 (rfl : true = true)) h106 (hr := r_loadS (b := b7) (vs := [.string (⟨#[68, 49]⟩ : ByteArray), .int .i64 1, .string (⟨#[66, 65, 78, 75, 65]⟩ : ByteArray), .string (⟨#[66, 65, 78, 75, 66]⟩ : ByteArray), .int .i64 0, .string (⟨#[85, 83, 48, 51, 55, 56, 51, 51, 49, 48, 48, 53]⟩ : ByteArray), .int .i64 100, .int .i64 2500000, .int .i64 9811, .int .i64 9815, .int .i64 0, .bool false, .int .i64 0, .bool false, .bool false, .slice none 0 0]) hB99 2 0 (by kernel_rfl) (by kernel_rfl) (by kernel_rfl)) fun q107 h108 => ?_
  clear h106
  refine stC (i := 20) (d := 29) (op := Op.call { callee := Callee.value (Operand.func 18), args := #[Operand.tmp 28], argTypes := #[29] }) (ty := 4) (g := (some (18, true))) (f := 18) (args := #[.agg #[.string (⟨#[68, 49]⟩ : ByteArray), .int .i64 1, .string (⟨#[66, 65, 78, 75, 65]⟩ : ByteArray), .string (⟨#[66, 65, 78, 75, 66]⟩ : ByteArray), .int .i64 0, .string (⟨#[85, 83, 48, 51, 55, 56, 51, 51, 49, 48, 48, 53]⟩ : ByteArray), .int .i64 100, .int .i64 2500000, .int .i64 9811, .int .i64 9815, .int .i64 0, .bool false, .int .i64 0, .bool false, .bool false, .slice none 0 0]]) (w1 := w97) h108 (by kernel_rfl) (by kernel_rfl) (by kernel_rfl) (g1 27 (rfl : true = true)) (by kernel_rfl) (c18 (⟨(⟨#[68, 49]⟩ : ByteArray), 1, (⟨#[66, 65, 78, 75, 65]⟩ : ByteArray), (⟨#[66, 65, 78, 75, 66]⟩ : ByteArray), 0, (⟨#[85, 83, 48, 51, 55, 56, 51, 51, 49, 48, 48, 53]⟩ : ByteArray), 100, 2500000, 9811, 9815, 0, false, 0, false, false, []⟩ : Ins) none 0 w97) ?_
  rintro _ w111 ⟨rfl, hb112⟩
  have hB113 := hB99.call hb112
  refine ⟨_, rfl, trivial, fun q109 h110 => ?_⟩
  clear h108 hB99 hb112
  have h114 := h110.keep [(29, .bool true), (28, .agg #[.string (⟨#[68, 49]⟩ : ByteArray), .int .i64 1, .string (⟨#[66, 65, 78, 75, 65]⟩ : ByteArray), .string (⟨#[66, 65, 78, 75, 66]⟩ : ByteArray), .int .i64 0, .string (⟨#[85, 83, 48, 51, 55, 56, 51, 51, 49, 48, 48, 53]⟩ : ByteArray), .int .i64 100, .int .i64 2500000, .int .i64 9811, .int .i64 9815, .int .i64 0, .bool false, .int .i64 0, .bool false, .bool false, .slice none 0 0]), (27, .bool true), (26, .bool true), (25, .bool true), (24, .string (delB (⟨(⟨#[68, 49]⟩ : ByteArray), 1, (⟨#[66, 65, 78, 75, 65]⟩ : ByteArray), (⟨#[66, 65, 78, 75, 66]⟩ : ByteArray), 0, (⟨#[85, 83, 48, 51, 55, 56, 51, 51, 49, 48, 48, 53]⟩ : ByteArray), 100, 2500000, 9811, 9815, 0, false, 0, false, false, []⟩ : Ins))), (23, .agg #[.string (⟨#[68, 49]⟩ : ByteArray), .int .i64 1, .string (⟨#[66, 65, 78, 75, 65]⟩ : ByteArray), .string (⟨#[66, 65, 78, 75, 66]⟩ : ByteArray), .int .i64 0, .string (⟨#[85, 83, 48, 51, 55, 56, 51, 51, 49, 48, 48, 53]⟩ : ByteArray), .int .i64 100, .int .i64 2500000, .int .i64 9811, .int .i64 9815, .int .i64 0, .bool false, .int .i64 0, .bool false, .bool false, .slice none 0 0]), (22, .bool true), (21, .bool true), (20, .bool true), (19, .int .i64 (chkI (⟨(⟨#[68, 49]⟩ : ByteArray), 1, (⟨#[66, 65, 78, 75, 65]⟩ : ByteArray), (⟨#[66, 65, 78, 75, 66]⟩ : ByteArray), 0, (⟨#[85, 83, 48, 51, 55, 56, 51, 51, 49, 48, 48, 53]⟩ : ByteArray), 100, 2500000, 9811, 9815, 0, true, 10, false, false, []⟩ : Ins))), (18, .agg #[.string (⟨#[68, 49]⟩ : ByteArray), .int .i64 1, .string (⟨#[66, 65, 78, 75, 65]⟩ : ByteArray), .string (⟨#[66, 65, 78, 75, 66]⟩ : ByteArray), .int .i64 0, .string (⟨#[85, 83, 48, 51, 55, 56, 51, 51, 49, 48, 48, 53]⟩ : ByteArray), .int .i64 100, .int .i64 2500000, .int .i64 9811, .int .i64 9815, .int .i64 0, .bool true, .int .i64 10, .bool false, .bool false, .slice none 0 0]), (17, .bool true), (16, .bool true), (15, .bool true), (14, .int .i64 (chkI (⟨(⟨#[68, 49]⟩ : ByteArray), 1, (⟨#[66, 65, 78, 75, 65]⟩ : ByteArray), (⟨#[66, 65, 78, 75, 66]⟩ : ByteArray), 0, (⟨#[85, 83, 48, 51, 55, 56, 51, 51, 49, 48, 48, 53]⟩ : ByteArray), 100, 2500000, 9811, 9815, 0, false, 10, false, false, []⟩ : Ins))), (13, .agg #[.string (⟨#[68, 49]⟩ : ByteArray), .int .i64 1, .string (⟨#[66, 65, 78, 75, 65]⟩ : ByteArray), .string (⟨#[66, 65, 78, 75, 66]⟩ : ByteArray), .int .i64 0, .string (⟨#[85, 83, 48, 51, 55, 56, 51, 51, 49, 48, 48, 53]⟩ : ByteArray), .int .i64 100, .int .i64 2500000, .int .i64 9811, .int .i64 9815, .int .i64 0, .bool false, .int .i64 10, .bool false, .bool false, .slice none 0 0]), (12, .bool true), (11, .bool true), (10, .int .i64 (chkI (⟨(⟨#[68, 49]⟩ : ByteArray), 1, (⟨#[66, 65, 78, 75, 65]⟩ : ByteArray), (⟨#[66, 65, 78, 75, 66]⟩ : ByteArray), 0, (⟨#[85, 83, 48, 51, 55, 56, 51, 51, 49, 48, 48, 53]⟩ : ByteArray), 100, 2500000, 9811, 9815, 0, false, 0, false, false, []⟩ : Ins))), (9, .agg #[.string (⟨#[68, 49]⟩ : ByteArray), .int .i64 1, .string (⟨#[66, 65, 78, 75, 65]⟩ : ByteArray), .string (⟨#[66, 65, 78, 75, 66]⟩ : ByteArray), .int .i64 0, .string (⟨#[85, 83, 48, 51, 55, 56, 51, 51, 49, 48, 48, 53]⟩ : ByteArray), .int .i64 100, .int .i64 2500000, .int .i64 9811, .int .i64 9815, .int .i64 0, .bool false, .int .i64 0, .bool false, .bool false, .slice none 0 0]), (3, .pointer (some ⟨b38, 0, none⟩)), (2, .pointer (some ⟨b19, 0, none⟩)), (1, .pointer (some ⟨b7, 0, none⟩)), (0, .bool false)] ⟨by kernel_rfl, rfl, rfl, rfl, rfl, rfl, rfl, rfl, rfl, rfl, rfl, rfl, rfl, rfl, rfl, rfl, rfl, rfl, rfl, rfl, rfl, rfl, rfl, rfl, rfl, trivial⟩
  clear h110
  refine eE 21 30 (.pick (.tmp 27) (.tmp 29) (.const (.bool false))) 4 (.bool true) h114 fun q115 h116 => ?_
  clear h114
  refine eE 22 0 (.assign (.tmp 30)) 4 (.bool true) h116 fun q117 h118 => ?_
  clear h116
  refine wpO_end ?_
  have h119 := h118.keep [(0, .bool true)] ⟨rfl, trivial⟩
  clear h118
  refine then_n ?_
  refine c_ret (by kernel_rfl) ?_
  refine ret1 (t := 0) (v := .bool true) h119 (by kernel_rfl) (by kernel_rfl) ?_
  exact ⟨ret_eq (rfl), hB113.bel⟩

end Go.Proofs.YtljegdokbifoiaaDoor.Af
