/- The small functions of package message. No condition. -/
import Derived.Test.YtljegdokbifoiaaDoorMs
namespace Go.Proofs.YtljegdokbifoiaaDoor.Af
open Go.RowKit
def winB (n a b : Int) : Bool := decide (a ≤ n) && decide (n ≤ b)
def isCol (i : Ins) : Bool := (i.kind == 3) || (i.kind == 4)
def isSec (i : Ins) : Bool := (i.kind == 1) || (i.kind == 2)
def maxLotI (i : Ins) : Int := bif i.part then i.qty else 0
def bndB (n : Int) (u : Bool) : Bool := bif u then winB n 1 1000000000000000 else n == 0

set_option maxHeartbeats 4000000 in
set_option maxRecDepth 20000 in
theorem c40 (n a b : Int) (w : World) : Calls Tryd.prog 40 #[.int .i64 n, .int .i64 a, .int .i64 b] w fun e w' => e = .returned (.bool (winB n a b)) ∧ Below w.heap.size w w' := by
  refine enter Tryd.func40 (by kernel_rfl) ?_ (by kernel_rfl)
  intro q0 h0
  replace h0 := h0.conv (l' := [(0, .int .i64 n), (1, .int .i64 a), (2, .int .i64 b)]) rfl
  have hB := Bx.refl w
  refine c_seq (by kernel_rfl) ?_
  refine reg_plain [(0, false)] (by kernel_rfl) (by kernel_rfl) ?_
  refine eE 0 6 (.assign (.const (.bool false))) 4 (.bool false) h0 fun q1 h2 => ?_
  clear h0
  refine wpO_end ?_
  refine then_n ?_
  refine c_seq (by kernel_rfl) ?_
  refine reg_plain [(0, false), (1, false), (2, false), (3, false), (4, false), (5, false), (6, false), (7, false), (8, false)] (by kernel_rfl) (by kernel_rfl) ?_
  refine eE 0 7 (.move (.tmp 0)) 3 (.int .i64 n) h2 fun q3 h4 => ?_
  clear h2
  refine eE 1 8 (.move (.tmp 1)) 3 (.int .i64 a) h4 fun q5 h6 => ?_
  clear h4
  refine eE 2 9 (.binOp .geq 3 (.tmp 7) (.tmp 8) 3) 4 (.bool (decide (a ≤ n))) h6 fun q7 h8 => ?_
  clear h6
  refine eE 3 10 (.move (.tmp 9)) 4 (.bool (decide (a ≤ n))) h8 fun q9 h10 => ?_
  clear h8
  refine wpO_cut [(4, false), (5, false), (6, false), (7, false)] [(8, false)] (fun qa qw => Fr 15 [(14, .bool ((decide (a ≤ n)) && (decide (n ≤ b)))), (6, .bool false)] qa ∧ Bx w [] qw) ?_ ?_
  ·
    rcases Bool.eq_false_or_eq_true (decide (a ≤ n)) with hc11 | hc11
    ·
      refine eG 4 11 (.move (.tmp 0)) 3 (3, true) (.int .i64 n) (g1 10 hc11) h10 fun q12 h13 => ?_
      clear h10
      refine eG 5 12 (.move (.tmp 2)) 3 (3, true) (.int .i64 b) (g1 10 hc11) h13 fun q14 h15 => ?_
      clear h13
      refine eG 6 13 (.binOp .leq 3 (.tmp 11) (.tmp 12) 3) 4 (3, true) (.bool (decide (n ≤ b))) (g1 10 hc11) h15 fun q16 h17 => ?_
      clear h15
      refine eE 7 14 (.pick (.tmp 10) (.tmp 13) (.const (.bool false))) 4 (.bool ((decide (a ≤ n)) && (decide (n ≤ b)))) h17 (hr := r_and (c := decide (a ≤ n)) (d := (decide (n ≤ b))) (by kernel_rfl) (fun _ => by kernel_rfl)) fun q18 h19 => ?_
      clear h17
      exact ⟨h19.keep _ ⟨rfl, rfl, trivial⟩, hB⟩
    ·
      refine kE 4 11 (3, true) (g3 10 hc11) h10 trivial fun q20 h21 => ?_
      clear h10
      refine kE 5 12 (3, true) (g3 10 hc11) h21 trivial fun q22 h23 => ?_
      clear h21
      refine kE 6 13 (3, true) (g3 10 hc11) h23 trivial fun q24 h25 => ?_
      clear h23
      refine eE 7 14 (.pick (.tmp 10) (.tmp 13) (.const (.bool false))) 4 (.bool ((decide (a ≤ n)) && (decide (n ≤ b)))) h25 (hr := r_and (c := decide (a ≤ n)) (d := (decide (n ≤ b))) (by kernel_rfl) (fun e28 => Bool.noConfusion (e28.symm.trans hc11))) fun q26 h27 => ?_
      clear h25
      exact ⟨h27.keep _ ⟨rfl, rfl, trivial⟩, hB⟩
  rintro q29 w30 ⟨h31, hB32⟩
  refine eE 8 6 (.assign (.tmp 14)) 4 (.bool ((decide (a ≤ n)) && (decide (n ≤ b)))) h31 fun q33 h34 => ?_
  clear h31
  refine wpO_end ?_
  have h35 := h34.keep [(6, .bool ((decide (a ≤ n)) && (decide (n ≤ b))))] ⟨rfl, trivial⟩
  clear h34
  refine then_n ?_
  refine c_ret (by kernel_rfl) ?_
  refine ret1 (t := 6) (v := .bool ((decide (a ≤ n)) && (decide (n ≤ b)))) h35 (by kernel_rfl) (by kernel_rfl) ?_
  exact ⟨ret_eq (rfl), hB32.bel⟩

set_option maxHeartbeats 4000000 in
set_option maxRecDepth 20000 in
theorem c46 (n a b : Int) (w : World) : Calls Tryd.prog 46 #[.int .i64 n, .int .i64 a, .int .i64 b] w fun e w' => e = .returned (.bool (winB n a b)) ∧ Below w.heap.size w w' := by
  refine enter Tryd.func46 (by kernel_rfl) ?_ (by kernel_rfl)
  intro q0 h0
  replace h0 := h0.conv (l' := [(0, .int .i64 n), (1, .int .i64 a), (2, .int .i64 b)]) rfl
  have hB := Bx.refl w
  refine c_seq (by kernel_rfl) ?_
  refine reg_plain [(0, false)] (by kernel_rfl) (by kernel_rfl) ?_
  refine eE 0 6 (.assign (.const (.bool false))) 4 (.bool false) h0 fun q1 h2 => ?_
  clear h0
  refine wpO_end ?_
  refine then_n ?_
  refine c_seq (by kernel_rfl) ?_
  refine reg_plain [(0, false), (1, false), (2, false), (3, false), (4, false), (5, false), (6, false), (7, false), (8, false)] (by kernel_rfl) (by kernel_rfl) ?_
  refine eE 0 7 (.move (.tmp 0)) 2 (.int .i64 n) h2 fun q3 h4 => ?_
  clear h2
  refine eE 1 8 (.move (.tmp 1)) 2 (.int .i64 a) h4 fun q5 h6 => ?_
  clear h4
  refine eE 2 9 (.binOp .geq 2 (.tmp 7) (.tmp 8) 2) 4 (.bool (decide (a ≤ n))) h6 fun q7 h8 => ?_
  clear h6
  refine eE 3 10 (.move (.tmp 9)) 4 (.bool (decide (a ≤ n))) h8 fun q9 h10 => ?_
  clear h8
  refine wpO_cut [(4, false), (5, false), (6, false), (7, false)] [(8, false)] (fun qa qw => Fr 15 [(14, .bool ((decide (a ≤ n)) && (decide (n ≤ b)))), (6, .bool false)] qa ∧ Bx w [] qw) ?_ ?_
  ·
    rcases Bool.eq_false_or_eq_true (decide (a ≤ n)) with hc11 | hc11
    ·
      refine eG 4 11 (.move (.tmp 0)) 2 (3, true) (.int .i64 n) (g1 10 hc11) h10 fun q12 h13 => ?_
      clear h10
      refine eG 5 12 (.move (.tmp 2)) 2 (3, true) (.int .i64 b) (g1 10 hc11) h13 fun q14 h15 => ?_
      clear h13
      refine eG 6 13 (.binOp .leq 2 (.tmp 11) (.tmp 12) 2) 4 (3, true) (.bool (decide (n ≤ b))) (g1 10 hc11) h15 fun q16 h17 => ?_
      clear h15
      refine eE 7 14 (.pick (.tmp 10) (.tmp 13) (.const (.bool false))) 4 (.bool ((decide (a ≤ n)) && (decide (n ≤ b)))) h17 (hr := r_and (c := decide (a ≤ n)) (d := (decide (n ≤ b))) (by kernel_rfl) (fun _ => by kernel_rfl)) fun q18 h19 => ?_
      clear h17
      exact ⟨h19.keep _ ⟨rfl, rfl, trivial⟩, hB⟩
    ·
      refine kE 4 11 (3, true) (g3 10 hc11) h10 trivial fun q20 h21 => ?_
      clear h10
      refine kE 5 12 (3, true) (g3 10 hc11) h21 trivial fun q22 h23 => ?_
      clear h21
      refine kE 6 13 (3, true) (g3 10 hc11) h23 trivial fun q24 h25 => ?_
      clear h23
      refine eE 7 14 (.pick (.tmp 10) (.tmp 13) (.const (.bool false))) 4 (.bool ((decide (a ≤ n)) && (decide (n ≤ b)))) h25 (hr := r_and (c := decide (a ≤ n)) (d := (decide (n ≤ b))) (by kernel_rfl) (fun e28 => Bool.noConfusion (e28.symm.trans hc11))) fun q26 h27 => ?_
      clear h25
      exact ⟨h27.keep _ ⟨rfl, rfl, trivial⟩, hB⟩
  rintro q29 w30 ⟨h31, hB32⟩
  refine eE 8 6 (.assign (.tmp 14)) 4 (.bool ((decide (a ≤ n)) && (decide (n ≤ b)))) h31 fun q33 h34 => ?_
  clear h31
  refine wpO_end ?_
  have h35 := h34.keep [(6, .bool ((decide (a ≤ n)) && (decide (n ≤ b))))] ⟨rfl, trivial⟩
  clear h34
  refine then_n ?_
  refine c_ret (by kernel_rfl) ?_
  refine ret1 (t := 6) (v := .bool ((decide (a ≤ n)) && (decide (n ≤ b)))) h35 (by kernel_rfl) (by kernel_rfl) ?_
  exact ⟨ret_eq (rfl), hB32.bel⟩

set_option maxHeartbeats 4000000 in
set_option maxRecDepth 20000 in
theorem c42 (i : Ins) (A : Option Addr) (c : Nat) (w : World) : Calls Tryd.prog 42 #[.agg #[.string i.ref, .int .i64 i.kind, .string i.sender, .string i.cpty, .int .i64 i.side, .string i.asset, .int .i64 i.qty, .int .i64 i.amt, .int .i64 i.tday, .int .i64 i.sday, .int .i64 i.prio, .bool i.part, .int .i64 i.minlot, .bool i.hold, .bool i.resv, .slice A i.links.length c]] w fun e w' => e = .returned (.bool (isCol i)) ∧ Below w.heap.size w w' := by
  refine enter Tryd.func42 (by kernel_rfl) ?_ (by kernel_rfl)
  intro q0 h0
  replace h0 := h0.conv (l' := [(0, .agg #[.string i.ref, .int .i64 i.kind, .string i.sender, .string i.cpty, .int .i64 i.side, .string i.asset, .int .i64 i.qty, .int .i64 i.amt, .int .i64 i.tday, .int .i64 i.sday, .int .i64 i.prio, .bool i.part, .int .i64 i.minlot, .bool i.hold, .bool i.resv, .slice A i.links.length c])]) rfl
  have hB := Bx.refl w
  refine c_seq (by kernel_rfl) ?_
  refine reg_plain [(0, false), (1, false)] (by kernel_rfl) (by kernel_rfl) ?_
  refine stA (i := 0) (d := 1) (op := Op.box 29 (Operand.tmp 0)) (ty := 0) (g := none) (mk := fun b => .pointer (some ⟨b, 0, none⟩)) (o := .cells #[.string i.ref, .int .i64 i.kind, .string i.sender, .string i.cpty, .int .i64 i.side, .string i.asset, .int .i64 i.qty, .int .i64 i.amt, .int .i64 i.tday, .int .i64 i.sday, .int .i64 i.prio, .bool i.part, .int .i64 i.minlot, .bool i.hold, .bool i.resv, .slice A i.links.length c] 29 (0, 0)) h0 (by kernel_rfl) (by kernel_rfl) (by kernel_rfl) gok_none (fun _ => by kernel_rfl) hB (fun _ _ hq => trivial) (fun b3 w4 hB5 hN q1 h2 => ?_)
  clear h0 hB hN
  refine eE 1 2 (.assign (.const (.bool false))) 4 (.bool false) h2 fun q6 h7 => ?_
  clear h2
  refine wpO_end ?_
  have h8 := h7.keep [(2, .bool false), (1, .pointer (some ⟨b3, 0, none⟩))] ⟨rfl, rfl, trivial⟩
  clear h7
  refine then_n ?_
  refine c_seq (by kernel_rfl) ?_
  refine reg_plain [(0, false), (1, false), (2, false), (3, false), (4, false), (5, false), (6, false), (7, false), (8, false)] (by kernel_rfl) (by kernel_rfl) ?_
  refine eE 0 3 (.fieldAddr 29 (.tmp 1) 1) 0 (.pointer (some ⟨b3, 1, none⟩)) h8 fun q9 h10 => ?_
  clear h8
  refine eE 1 4 (.load 3 (.tmp 3)) 3 (.int .i64 i.kind) h10 (hr := r_loadC (b := b3) (v := .int .i64 i.kind) hB5 0 1 (by kernel_rfl) (by kernel_rfl) (by kernel_rfl)) fun q11 h12 => ?_
  clear h10
  refine eE 2 5 (.binOp .eql 3 (.tmp 4) (.const (.int .i64 3)) 3) 4 (.bool (i.kind == (3 : Int))) h12 fun q13 h14 => ?_
  clear h12
  refine eE 3 6 (.move (.tmp 5)) 4 (.bool (i.kind == (3 : Int))) h14 fun q15 h16 => ?_
  clear h14
  refine wpO_cut [(4, false), (5, false), (6, false), (7, false)] [(8, false)] (fun qa qw => Fr 11 [(10, .bool ((i.kind == (3 : Int)) || (i.kind == (4 : Int)))), (2, .bool false)] qa ∧ Bx w [(b3, .cells #[.string i.ref, .int .i64 i.kind, .string i.sender, .string i.cpty, .int .i64 i.side, .string i.asset, .int .i64 i.qty, .int .i64 i.amt, .int .i64 i.tday, .int .i64 i.sday, .int .i64 i.prio, .bool i.part, .int .i64 i.minlot, .bool i.hold, .bool i.resv, .slice A i.links.length c] 29 (0, 0))] qw) ?_ ?_
  ·
    rcases Bool.eq_false_or_eq_true (i.kind == (3 : Int)) with hc17 | hc17
    ·
      refine kE 4 7 (3, false) (g4 6 hc17) h16 trivial fun q18 h19 => ?_
      clear h16
      refine kE 5 8 (3, false) (g4 6 hc17) h19 trivial fun q20 h21 => ?_
      clear h19
      refine kE 6 9 (3, false) (g4 6 hc17) h21 trivial fun q22 h23 => ?_
      clear h21
      refine eE 7 10 (.pick (.tmp 6) (.const (.bool true)) (.tmp 9)) 4 (.bool ((i.kind == (3 : Int)) || (i.kind == (4 : Int)))) h23 (hr := r_or (c := (i.kind == (3 : Int))) (d := (i.kind == (4 : Int))) (by kernel_rfl) (fun e26 => Bool.noConfusion (e26.symm.trans hc17))) fun q24 h25 => ?_
      clear h23
      exact ⟨h25.keep _ ⟨rfl, rfl, trivial⟩, hB5⟩
    ·
      refine eG 4 7 (.fieldAddr 29 (.tmp 1) 1) 0 (3, false) (.pointer (some ⟨b3, 1, none⟩)) (g2 6 hc17) h16 fun q27 h28 => ?_
      clear h16
      refine eG 5 8 (.load 3 (.tmp 7)) 3 (3, false) (.int .i64 i.kind) (g2 6 hc17) h28 (hr := r_loadC (b := b3) (v := .int .i64 i.kind) hB5 0 1 (by kernel_rfl) (by kernel_rfl) (by kernel_rfl)) fun q29 h30 => ?_
      clear h28
      refine eG 6 9 (.binOp .eql 3 (.tmp 8) (.const (.int .i64 4)) 3) 4 (3, false) (.bool (i.kind == (4 : Int))) (g2 6 hc17) h30 fun q31 h32 => ?_
      clear h30
      refine eE 7 10 (.pick (.tmp 6) (.const (.bool true)) (.tmp 9)) 4 (.bool ((i.kind == (3 : Int)) || (i.kind == (4 : Int)))) h32 (hr := r_or (c := (i.kind == (3 : Int))) (d := (i.kind == (4 : Int))) (by kernel_rfl) (fun _ => by kernel_rfl)) fun q33 h34 => ?_
      clear h32
      exact ⟨h34.keep _ ⟨rfl, rfl, trivial⟩, hB5⟩
  rintro q35 w36 ⟨h37, hB38⟩
  refine eE 8 2 (.assign (.tmp 10)) 4 (.bool ((i.kind == (3 : Int)) || (i.kind == (4 : Int)))) h37 fun q39 h40 => ?_
  clear h37
  refine wpO_end ?_
  have h41 := h40.keep [(2, .bool ((i.kind == (3 : Int)) || (i.kind == (4 : Int))))] ⟨rfl, trivial⟩
  clear h40
  refine then_n ?_
  refine c_ret (by kernel_rfl) ?_
  refine ret1 (t := 2) (v := .bool ((i.kind == (3 : Int)) || (i.kind == (4 : Int)))) h41 (by kernel_rfl) (by kernel_rfl) ?_
  exact ⟨ret_eq (rfl), hB38.bel⟩

set_option maxHeartbeats 4000000 in
set_option maxRecDepth 20000 in
theorem c43 (i : Ins) (A : Option Addr) (c : Nat) (w : World) : Calls Tryd.prog 43 #[.agg #[.string i.ref, .int .i64 i.kind, .string i.sender, .string i.cpty, .int .i64 i.side, .string i.asset, .int .i64 i.qty, .int .i64 i.amt, .int .i64 i.tday, .int .i64 i.sday, .int .i64 i.prio, .bool i.part, .int .i64 i.minlot, .bool i.hold, .bool i.resv, .slice A i.links.length c]] w fun e w' => e = .returned (.bool (isSec i)) ∧ Below w.heap.size w w' := by
  refine enter Tryd.func43 (by kernel_rfl) ?_ (by kernel_rfl)
  intro q0 h0
  replace h0 := h0.conv (l' := [(0, .agg #[.string i.ref, .int .i64 i.kind, .string i.sender, .string i.cpty, .int .i64 i.side, .string i.asset, .int .i64 i.qty, .int .i64 i.amt, .int .i64 i.tday, .int .i64 i.sday, .int .i64 i.prio, .bool i.part, .int .i64 i.minlot, .bool i.hold, .bool i.resv, .slice A i.links.length c])]) rfl
  have hB := Bx.refl w
  refine c_seq (by kernel_rfl) ?_
  refine reg_plain [(0, false), (1, false)] (by kernel_rfl) (by kernel_rfl) ?_
  refine stA (i := 0) (d := 1) (op := Op.box 29 (Operand.tmp 0)) (ty := 0) (g := none) (mk := fun b => .pointer (some ⟨b, 0, none⟩)) (o := .cells #[.string i.ref, .int .i64 i.kind, .string i.sender, .string i.cpty, .int .i64 i.side, .string i.asset, .int .i64 i.qty, .int .i64 i.amt, .int .i64 i.tday, .int .i64 i.sday, .int .i64 i.prio, .bool i.part, .int .i64 i.minlot, .bool i.hold, .bool i.resv, .slice A i.links.length c] 29 (0, 0)) h0 (by kernel_rfl) (by kernel_rfl) (by kernel_rfl) gok_none (fun _ => by kernel_rfl) hB (fun _ _ hq => trivial) (fun b3 w4 hB5 hN q1 h2 => ?_)
  clear h0 hB hN
  refine eE 1 2 (.assign (.const (.bool false))) 4 (.bool false) h2 fun q6 h7 => ?_
  clear h2
  refine wpO_end ?_
  have h8 := h7.keep [(2, .bool false), (1, .pointer (some ⟨b3, 0, none⟩))] ⟨rfl, rfl, trivial⟩
  clear h7
  refine then_n ?_
  refine c_seq (by kernel_rfl) ?_
  refine reg_plain [(0, false), (1, false), (2, false), (3, false), (4, false), (5, false), (6, false), (7, false), (8, false)] (by kernel_rfl) (by kernel_rfl) ?_
  refine eE 0 3 (.fieldAddr 29 (.tmp 1) 1) 0 (.pointer (some ⟨b3, 1, none⟩)) h8 fun q9 h10 => ?_
  clear h8
  refine eE 1 4 (.load 3 (.tmp 3)) 3 (.int .i64 i.kind) h10 (hr := r_loadC (b := b3) (v := .int .i64 i.kind) hB5 0 1 (by kernel_rfl) (by kernel_rfl) (by kernel_rfl)) fun q11 h12 => ?_
  clear h10
  refine eE 2 5 (.binOp .eql 3 (.tmp 4) (.const (.int .i64 1)) 3) 4 (.bool (i.kind == (1 : Int))) h12 fun q13 h14 => ?_
  clear h12
  refine eE 3 6 (.move (.tmp 5)) 4 (.bool (i.kind == (1 : Int))) h14 fun q15 h16 => ?_
  clear h14
  refine wpO_cut [(4, false), (5, false), (6, false), (7, false)] [(8, false)] (fun qa qw => Fr 11 [(10, .bool ((i.kind == (1 : Int)) || (i.kind == (2 : Int)))), (2, .bool false)] qa ∧ Bx w [(b3, .cells #[.string i.ref, .int .i64 i.kind, .string i.sender, .string i.cpty, .int .i64 i.side, .string i.asset, .int .i64 i.qty, .int .i64 i.amt, .int .i64 i.tday, .int .i64 i.sday, .int .i64 i.prio, .bool i.part, .int .i64 i.minlot, .bool i.hold, .bool i.resv, .slice A i.links.length c] 29 (0, 0))] qw) ?_ ?_
  ·
    rcases Bool.eq_false_or_eq_true (i.kind == (1 : Int)) with hc17 | hc17
    ·
      refine kE 4 7 (3, false) (g4 6 hc17) h16 trivial fun q18 h19 => ?_
      clear h16
      refine kE 5 8 (3, false) (g4 6 hc17) h19 trivial fun q20 h21 => ?_
      clear h19
      refine kE 6 9 (3, false) (g4 6 hc17) h21 trivial fun q22 h23 => ?_
      clear h21
      refine eE 7 10 (.pick (.tmp 6) (.const (.bool true)) (.tmp 9)) 4 (.bool ((i.kind == (1 : Int)) || (i.kind == (2 : Int)))) h23 (hr := r_or (c := (i.kind == (1 : Int))) (d := (i.kind == (2 : Int))) (by kernel_rfl) (fun e26 => Bool.noConfusion (e26.symm.trans hc17))) fun q24 h25 => ?_
      clear h23
      exact ⟨h25.keep _ ⟨rfl, rfl, trivial⟩, hB5⟩
    ·
      refine eG 4 7 (.fieldAddr 29 (.tmp 1) 1) 0 (3, false) (.pointer (some ⟨b3, 1, none⟩)) (g2 6 hc17) h16 fun q27 h28 => ?_
      clear h16
      refine eG 5 8 (.load 3 (.tmp 7)) 3 (3, false) (.int .i64 i.kind) (g2 6 hc17) h28 (hr := r_loadC (b := b3) (v := .int .i64 i.kind) hB5 0 1 (by kernel_rfl) (by kernel_rfl) (by kernel_rfl)) fun q29 h30 => ?_
      clear h28
      refine eG 6 9 (.binOp .eql 3 (.tmp 8) (.const (.int .i64 2)) 3) 4 (3, false) (.bool (i.kind == (2 : Int))) (g2 6 hc17) h30 fun q31 h32 => ?_
      clear h30
      refine eE 7 10 (.pick (.tmp 6) (.const (.bool true)) (.tmp 9)) 4 (.bool ((i.kind == (1 : Int)) || (i.kind == (2 : Int)))) h32 (hr := r_or (c := (i.kind == (1 : Int))) (d := (i.kind == (2 : Int))) (by kernel_rfl) (fun _ => by kernel_rfl)) fun q33 h34 => ?_
      clear h32
      exact ⟨h34.keep _ ⟨rfl, rfl, trivial⟩, hB5⟩
  rintro q35 w36 ⟨h37, hB38⟩
  refine eE 8 2 (.assign (.tmp 10)) 4 (.bool ((i.kind == (1 : Int)) || (i.kind == (2 : Int)))) h37 fun q39 h40 => ?_
  clear h37
  refine wpO_end ?_
  have h41 := h40.keep [(2, .bool ((i.kind == (1 : Int)) || (i.kind == (2 : Int))))] ⟨rfl, trivial⟩
  clear h40
  refine then_n ?_
  refine c_ret (by kernel_rfl) ?_
  refine ret1 (t := 2) (v := .bool ((i.kind == (1 : Int)) || (i.kind == (2 : Int)))) h41 (by kernel_rfl) (by kernel_rfl) ?_
  exact ⟨ret_eq (rfl), hB38.bel⟩

set_option maxHeartbeats 4000000 in
set_option maxRecDepth 20000 in
theorem c47 (i : Ins) (A : Option Addr) (c : Nat) (w : World) : Calls Tryd.prog 47 #[.agg #[.string i.ref, .int .i64 i.kind, .string i.sender, .string i.cpty, .int .i64 i.side, .string i.asset, .int .i64 i.qty, .int .i64 i.amt, .int .i64 i.tday, .int .i64 i.sday, .int .i64 i.prio, .bool i.part, .int .i64 i.minlot, .bool i.hold, .bool i.resv, .slice A i.links.length c]] w fun e w' => e = .returned (.int .i64 (maxLotI i)) ∧ Below w.heap.size w w' := by
  refine enter Tryd.func47 (by kernel_rfl) ?_ (by kernel_rfl)
  intro q0 h0
  replace h0 := h0.conv (l' := [(0, .agg #[.string i.ref, .int .i64 i.kind, .string i.sender, .string i.cpty, .int .i64 i.side, .string i.asset, .int .i64 i.qty, .int .i64 i.amt, .int .i64 i.tday, .int .i64 i.sday, .int .i64 i.prio, .bool i.part, .int .i64 i.minlot, .bool i.hold, .bool i.resv, .slice A i.links.length c])]) rfl
  have hB := Bx.refl w
  refine c_seq (by kernel_rfl) ?_
  refine reg_plain [(0, false), (1, false)] (by kernel_rfl) (by kernel_rfl) ?_
  refine stA (i := 0) (d := 1) (op := Op.box 29 (Operand.tmp 0)) (ty := 0) (g := none) (mk := fun b => .pointer (some ⟨b, 0, none⟩)) (o := .cells #[.string i.ref, .int .i64 i.kind, .string i.sender, .string i.cpty, .int .i64 i.side, .string i.asset, .int .i64 i.qty, .int .i64 i.amt, .int .i64 i.tday, .int .i64 i.sday, .int .i64 i.prio, .bool i.part, .int .i64 i.minlot, .bool i.hold, .bool i.resv, .slice A i.links.length c] 29 (0, 0)) h0 (by kernel_rfl) (by kernel_rfl) (by kernel_rfl) gok_none (fun _ => by kernel_rfl) hB (fun _ _ hq => trivial) (fun b3 w4 hB5 hN q1 h2 => ?_)
  clear h0 hB hN
  refine eE 1 2 (.assign (.const (.int .i64 0))) 2 (.int .i64 0) h2 fun q6 h7 => ?_
  clear h2
  refine wpO_end ?_
  have h8 := h7.keep [(2, .int .i64 0), (1, .pointer (some ⟨b3, 0, none⟩))] ⟨rfl, rfl, trivial⟩
  clear h7
  refine then_n ?_
  refine c_seq (by kernel_rfl) ?_
  refine c_seq (by kernel_rfl) ?_
  refine reg_plain [(0, false), (1, false)] (by kernel_rfl) (by kernel_rfl) ?_
  refine eE 0 3 (.fieldAddr 29 (.tmp 1) 11) 0 (.pointer (some ⟨b3, 11, none⟩)) h8 fun q9 h10 => ?_
  clear h8
  refine eE 1 4 (.load 4 (.tmp 3)) 4 (.bool i.part) h10 (hr := r_loadC (b := b3) (v := .bool i.part) hB5 0 11 (by kernel_rfl) (by kernel_rfl) (by kernel_rfl)) fun q11 h12 => ?_
  clear h10
  refine wpO_end ?_
  have h13 := h12.keep [(4, .bool i.part), (2, .int .i64 0), (1, .pointer (some ⟨b3, 0, none⟩))] ⟨rfl, rfl, rfl, trivial⟩
  clear h12
  refine then_n ?_
  refine c_cond (t := 4) (b := i.part) h13 (by kernel_rfl) (by kernel_rfl) (fun hc14 => ?_) (fun hc14 => ?_)
  ·
    refine c_seq (by kernel_rfl) ?_
    refine reg_plain [(0, false), (1, false), (2, false)] (by kernel_rfl) (by kernel_rfl) ?_
    refine eE 0 5 (.fieldAddr 29 (.tmp 1) 6) 0 (.pointer (some ⟨b3, 6, none⟩)) h13 fun q15 h16 => ?_
    clear h13
    refine eE 1 6 (.load 2 (.tmp 5)) 2 (.int .i64 i.qty) h16 (hr := r_loadC (b := b3) (v := .int .i64 i.qty) hB5 0 6 (by kernel_rfl) (by kernel_rfl) (by kernel_rfl)) fun q17 h18 => ?_
    clear h16
    refine eE 2 2 (.assign (.tmp 6)) 2 (.int .i64 i.qty) h18 fun q19 h20 => ?_
    clear h18
    refine wpO_end ?_
    have h21 := h20.keep [(2, .int .i64 i.qty)] ⟨rfl, trivial⟩
    clear h20
    refine then_n ?_
    refine c_ret (by kernel_rfl) ?_
    refine then_r ?_
    refine ret1 (t := 2) (v := .int .i64 i.qty) h21 (by kernel_rfl) (by kernel_rfl) ?_
    exact ⟨ret_eq (congrArg (Value.int .i64) ((cT hc14)).symm), hB5.bel⟩
  ·
    refine c_skip (by kernel_rfl) ?_
    refine then_n ?_
    refine c_seq (by kernel_rfl) ?_
    refine reg_plain [(0, false)] (by kernel_rfl) (by kernel_rfl) ?_
    refine eE 0 2 (.assign (.const (.int .i64 0))) 2 (.int .i64 0) h13 fun q22 h23 => ?_
    clear h13
    refine wpO_end ?_
    have h24 := h23.keep [(2, .int .i64 0)] ⟨rfl, trivial⟩
    clear h23
    refine then_n ?_
    refine c_ret (by kernel_rfl) ?_
    refine ret1 (t := 2) (v := .int .i64 0) h24 (by kernel_rfl) (by kernel_rfl) ?_
    exact ⟨ret_eq (congrArg (Value.int .i64) ((cF hc14)).symm), hB5.bel⟩

set_option maxHeartbeats 4000000 in
set_option maxRecDepth 20000 in
theorem c45 (n : Int) (u : Bool) (w : World) : Calls Tryd.prog 45 #[.int .i64 n, .bool u] w fun e w' => e = .returned (.bool (bndB n u)) ∧ Below w.heap.size w w' := by
  refine enter Tryd.func45 (by kernel_rfl) ?_ (by kernel_rfl)
  intro q0 h0
  replace h0 := h0.conv (l' := [(0, .int .i64 n), (1, .bool u)]) rfl
  have hB := Bx.refl w
  refine c_seq (by kernel_rfl) ?_
  refine reg_plain [(0, false)] (by kernel_rfl) (by kernel_rfl) ?_
  refine eE 0 4 (.assign (.const (.bool false))) 4 (.bool false) h0 fun q1 h2 => ?_
  clear h0
  refine wpO_end ?_
  refine then_n ?_
  refine c_seq (by kernel_rfl) ?_
  refine c_seq (by kernel_rfl) ?_
  refine reg_plain [(0, false)] (by kernel_rfl) (by kernel_rfl) ?_
  refine eE 0 5 (.move (.tmp 1)) 4 (.bool u) h2 fun q3 h4 => ?_
  clear h2
  refine wpO_end ?_
  have h5 := h4.keep [(5, .bool u), (4, .bool false), (0, .int .i64 n)] ⟨rfl, rfl, rfl, trivial⟩
  clear h4
  refine then_n ?_
  refine c_cond (t := 5) (b := u) h5 (by kernel_rfl) (by kernel_rfl) (fun hc6 => ?_) (fun hc6 => ?_)
  ·
    refine c_seq (by kernel_rfl) ?_
    refine reg_plain [(0, false), (1, false), (2, false)] (by kernel_rfl) (by kernel_rfl) ?_
    refine eE 0 6 (.move (.tmp 0)) 2 (.int .i64 n) h5 fun q7 h8 => ?_
    clear h5
    refine stC (i := 1) (d := 7) (op := Op.call { callee := Callee.value (Operand.func 46), args := #[Operand.tmp 6, Operand.const (Value.int IntKind.i64 1), Operand.const (Value.int IntKind.i64 1000000000000000)], argTypes := #[2, 2, 2] }) (ty := 4) (g := none) (f := 46) (args := #[.int .i64 n, .int .i64 1, .int .i64 1000000000000000]) (w1 := w) h8 (by kernel_rfl) (by kernel_rfl) (by kernel_rfl) gok_none (by kernel_rfl) (c46 n 1 1000000000000000 w) ?_
    rintro _ w11 ⟨rfl, hb12⟩
    have hB13 := hB.call hb12
    refine ⟨_, rfl, trivial, fun q9 h10 => ?_⟩
    clear h8 hB hb12
    refine eE 2 4 (.assign (.tmp 7)) 4 (.bool (winB n 1 1000000000000000)) h10 fun q14 h15 => ?_
    clear h10
    refine wpO_end ?_
    have h16 := h15.keep [(4, .bool (winB n 1 1000000000000000)), (0, .int .i64 n)] ⟨rfl, rfl, trivial⟩
    clear h15
    refine then_n ?_
    refine c_ret (by kernel_rfl) ?_
    refine then_r ?_
    refine ret1 (t := 4) (v := .bool (winB n 1 1000000000000000)) h16 (by kernel_rfl) (by kernel_rfl) ?_
    exact ⟨ret_eq (congrArg Value.bool ((cT hc6)).symm), hB13.bel⟩
  ·
    refine c_skip (by kernel_rfl) ?_
    refine then_n ?_
    refine c_seq (by kernel_rfl) ?_
    refine reg_plain [(0, false), (1, false), (2, false)] (by kernel_rfl) (by kernel_rfl) ?_
    refine eE 0 8 (.move (.tmp 0)) 2 (.int .i64 n) h5 fun q17 h18 => ?_
    clear h5
    refine eE 1 9 (.binOp .eql 2 (.tmp 8) (.const (.int .i64 0)) 2) 4 (.bool (n == (0 : Int))) h18 fun q19 h20 => ?_
    clear h18
    refine eE 2 4 (.assign (.tmp 9)) 4 (.bool (n == (0 : Int))) h20 fun q21 h22 => ?_
    clear h20
    refine wpO_end ?_
    have h23 := h22.keep [(4, .bool (n == (0 : Int)))] ⟨rfl, trivial⟩
    clear h22
    refine then_n ?_
    refine c_ret (by kernel_rfl) ?_
    refine ret1 (t := 4) (v := .bool (n == (0 : Int))) h23 (by kernel_rfl) (by kernel_rfl) ?_
    exact ⟨ret_eq (congrArg Value.bool ((cF hc6)).symm), hB.bel⟩

end Go.Proofs.YtljegdokbifoiaaDoor.Af
