/- Classes of characters. No condition. -/
import Derived.Test.YtljegdokbifoiaaDoorIdp
namespace Go.Proofs.YtljegdokbifoiaaDoor.Af
open Go.RowKit
set_option maxHeartbeats 4000000 in
set_option maxRecDepth 20000 in
theorem c86 (c : Int) (w : World) : Calls Tryd.prog 86 #[.int .u8 c] w fun e w' => e = .returned (.bool (letterB c)) ∧ Below w.heap.size w w' := by
  refine enter Tryd.func86 (by kernel_rfl) ?_ (by kernel_rfl)
  intro q0 h0
  replace h0 := h0.conv (l' := [(0, .int .u8 c)]) rfl
  have hB := Bx.refl w
  refine c_seq (by kernel_rfl) ?_
  refine reg_plain [(0, false)] (by kernel_rfl) (by kernel_rfl) ?_
  refine eE 0 2 (.assign (.const (.bool false))) 4 (.bool false) h0 fun q1 h2 => ?_
  clear h0
  refine wpO_end ?_
  refine then_n ?_
  refine c_seq (by kernel_rfl) ?_
  refine reg_plain [(0, false), (1, false), (2, false), (3, false), (4, false), (5, false), (6, false)] (by kernel_rfl) (by kernel_rfl) ?_
  refine eE 0 3 (.move (.tmp 0)) 5 (.int .u8 c) h2 fun q3 h4 => ?_
  clear h2
  refine eE 1 4 (.binOp .geq 5 (.tmp 3) (.const (.int .u8 65)) 5) 4 (.bool (decide ((65 : Int) ≤ c))) h4 fun q5 h6 => ?_
  clear h4
  refine eE 2 5 (.move (.tmp 4)) 4 (.bool (decide ((65 : Int) ≤ c))) h6 fun q7 h8 => ?_
  clear h6
  refine wpO_cut [(3, false), (4, false), (5, false)] [(6, false)] (fun qa qw => Fr 9 [(8, .bool ((decide ((65 : Int) ≤ c)) && (decide (c ≤ (90 : Int))))), (2, .bool false)] qa ∧ Bx w [] qw) ?_ ?_
  ·
    rcases Bool.eq_false_or_eq_true (decide ((65 : Int) ≤ c)) with hc9 | hc9
    ·
      refine eG 3 6 (.move (.tmp 0)) 5 (2, true) (.int .u8 c) (g1 5 hc9) h8 fun q10 h11 => ?_
      clear h8
      refine eG 4 7 (.binOp .leq 5 (.tmp 6) (.const (.int .u8 90)) 5) 4 (2, true) (.bool (decide (c ≤ (90 : Int)))) (g1 5 hc9) h11 fun q12 h13 => ?_
      clear h11
      refine eE 5 8 (.pick (.tmp 5) (.tmp 7) (.const (.bool false))) 4 (.bool ((decide ((65 : Int) ≤ c)) && (decide (c ≤ (90 : Int))))) h13 (hr := r_and (c := decide ((65 : Int) ≤ c)) (d := (decide (c ≤ (90 : Int)))) (by kernel_rfl) (fun _ => by kernel_rfl)) fun q14 h15 => ?_
      clear h13
      exact ⟨h15.keep _ ⟨rfl, rfl, trivial⟩, hB⟩
    ·
      refine kE 3 6 (2, true) (g3 5 hc9) h8 trivial fun q16 h17 => ?_
      clear h8
      refine kE 4 7 (2, true) (g3 5 hc9) h17 trivial fun q18 h19 => ?_
      clear h17
      refine eE 5 8 (.pick (.tmp 5) (.tmp 7) (.const (.bool false))) 4 (.bool ((decide ((65 : Int) ≤ c)) && (decide (c ≤ (90 : Int))))) h19 (hr := r_and (c := decide ((65 : Int) ≤ c)) (d := (decide (c ≤ (90 : Int)))) (by kernel_rfl) (fun e22 => Bool.noConfusion (e22.symm.trans hc9))) fun q20 h21 => ?_
      clear h19
      exact ⟨h21.keep _ ⟨rfl, rfl, trivial⟩, hB⟩
  rintro q23 w24 ⟨h25, hB26⟩
  refine eE 6 2 (.assign (.tmp 8)) 4 (.bool ((decide ((65 : Int) ≤ c)) && (decide (c ≤ (90 : Int))))) h25 fun q27 h28 => ?_
  clear h25
  refine wpO_end ?_
  have h29 := h28.keep [(2, .bool ((decide ((65 : Int) ≤ c)) && (decide (c ≤ (90 : Int)))))] ⟨rfl, trivial⟩
  clear h28
  refine then_n ?_
  refine c_ret (by kernel_rfl) ?_
  refine ret1 (t := 2) (v := .bool ((decide ((65 : Int) ≤ c)) && (decide (c ≤ (90 : Int))))) h29 (by kernel_rfl) (by kernel_rfl) ?_
  exact ⟨ret_eq (rfl), hB26.bel⟩

set_option maxHeartbeats 4000000 in
set_option maxRecDepth 20000 in
theorem c88 (c : Int) (w : World) : Calls Tryd.prog 88 #[.int .u8 c] w fun e w' => e = .returned (.bool (digitB c)) ∧ Below w.heap.size w w' := by
  refine enter Tryd.func88 (by kernel_rfl) ?_ (by kernel_rfl)
  intro q0 h0
  replace h0 := h0.conv (l' := [(0, .int .u8 c)]) rfl
  have hB := Bx.refl w
  refine c_seq (by kernel_rfl) ?_
  refine reg_plain [(0, false)] (by kernel_rfl) (by kernel_rfl) ?_
  refine eE 0 2 (.assign (.const (.bool false))) 4 (.bool false) h0 fun q1 h2 => ?_
  clear h0
  refine wpO_end ?_
  refine then_n ?_
  refine c_seq (by kernel_rfl) ?_
  refine reg_plain [(0, false), (1, false), (2, false), (3, false), (4, false), (5, false), (6, false)] (by kernel_rfl) (by kernel_rfl) ?_
  refine eE 0 3 (.move (.tmp 0)) 5 (.int .u8 c) h2 fun q3 h4 => ?_
  clear h2
  refine eE 1 4 (.binOp .geq 5 (.tmp 3) (.const (.int .u8 48)) 5) 4 (.bool (decide ((48 : Int) ≤ c))) h4 fun q5 h6 => ?_
  clear h4
  refine eE 2 5 (.move (.tmp 4)) 4 (.bool (decide ((48 : Int) ≤ c))) h6 fun q7 h8 => ?_
  clear h6
  refine wpO_cut [(3, false), (4, false), (5, false)] [(6, false)] (fun qa qw => Fr 9 [(8, .bool ((decide ((48 : Int) ≤ c)) && (decide (c ≤ (57 : Int))))), (2, .bool false)] qa ∧ Bx w [] qw) ?_ ?_
  ·
    rcases Bool.eq_false_or_eq_true (decide ((48 : Int) ≤ c)) with hc9 | hc9
    ·
      refine eG 3 6 (.move (.tmp 0)) 5 (2, true) (.int .u8 c) (g1 5 hc9) h8 fun q10 h11 => ?_
      clear h8
      refine eG 4 7 (.binOp .leq 5 (.tmp 6) (.const (.int .u8 57)) 5) 4 (2, true) (.bool (decide (c ≤ (57 : Int)))) (g1 5 hc9) h11 fun q12 h13 => ?_
      clear h11
      refine eE 5 8 (.pick (.tmp 5) (.tmp 7) (.const (.bool false))) 4 (.bool ((decide ((48 : Int) ≤ c)) && (decide (c ≤ (57 : Int))))) h13 (hr := r_and (c := decide ((48 : Int) ≤ c)) (d := (decide (c ≤ (57 : Int)))) (by kernel_rfl) (fun _ => by kernel_rfl)) fun q14 h15 => ?_
      clear h13
      exact ⟨h15.keep _ ⟨rfl, rfl, trivial⟩, hB⟩
    ·
      refine kE 3 6 (2, true) (g3 5 hc9) h8 trivial fun q16 h17 => ?_
      clear h8
      refine kE 4 7 (2, true) (g3 5 hc9) h17 trivial fun q18 h19 => ?_
      clear h17
      refine eE 5 8 (.pick (.tmp 5) (.tmp 7) (.const (.bool false))) 4 (.bool ((decide ((48 : Int) ≤ c)) && (decide (c ≤ (57 : Int))))) h19 (hr := r_and (c := decide ((48 : Int) ≤ c)) (d := (decide (c ≤ (57 : Int)))) (by kernel_rfl) (fun e22 => Bool.noConfusion (e22.symm.trans hc9))) fun q20 h21 => ?_
      clear h19
      exact ⟨h21.keep _ ⟨rfl, rfl, trivial⟩, hB⟩
  rintro q23 w24 ⟨h25, hB26⟩
  refine eE 6 2 (.assign (.tmp 8)) 4 (.bool ((decide ((48 : Int) ≤ c)) && (decide (c ≤ (57 : Int))))) h25 fun q27 h28 => ?_
  clear h25
  refine wpO_end ?_
  have h29 := h28.keep [(2, .bool ((decide ((48 : Int) ≤ c)) && (decide (c ≤ (57 : Int)))))] ⟨rfl, trivial⟩
  clear h28
  refine then_n ?_
  refine c_ret (by kernel_rfl) ?_
  refine ret1 (t := 2) (v := .bool ((decide ((48 : Int) ≤ c)) && (decide (c ≤ (57 : Int))))) h29 (by kernel_rfl) (by kernel_rfl) ?_
  exact ⟨ret_eq (rfl), hB26.bel⟩

set_option maxHeartbeats 4000000 in
set_option maxRecDepth 20000 in
theorem c87 (c : Int) (w : World) : Calls Tryd.prog 87 #[.int .u8 c] w fun e w' => e = .returned (.bool (alnumB c)) ∧ Below w.heap.size w w' := by
  refine enter Tryd.func87 (by kernel_rfl) ?_ (by kernel_rfl)
  intro q0 h0
  replace h0 := h0.conv (l' := [(0, .int .u8 c)]) rfl
  have hB := Bx.refl w
  refine c_seq (by kernel_rfl) ?_
  refine reg_plain [(0, false)] (by kernel_rfl) (by kernel_rfl) ?_
  refine eE 0 2 (.assign (.const (.bool false))) 4 (.bool false) h0 fun q1 h2 => ?_
  clear h0
  refine wpO_end ?_
  refine then_n ?_
  refine c_seq (by kernel_rfl) ?_
  refine reg_plain [(0, false), (1, false), (2, false), (3, false), (4, false), (5, false), (6, false)] (by kernel_rfl) (by kernel_rfl) ?_
  refine eE 0 3 (.move (.tmp 0)) 5 (.int .u8 c) h2 fun q3 h4 => ?_
  clear h2
  refine stC (i := 1) (d := 4) (op := Op.call { callee := Callee.value (Operand.func 86), args := #[Operand.tmp 3], argTypes := #[5] }) (ty := 4) (g := none) (f := 86) (args := #[.int .u8 c]) (w1 := w) h4 (by kernel_rfl) (by kernel_rfl) (by kernel_rfl) gok_none (by kernel_rfl) (c86 c w) ?_
  rintro _ w7 ⟨rfl, hb8⟩
  have hB9 := hB.call hb8
  refine ⟨_, rfl, trivial, fun q5 h6 => ?_⟩
  clear h4 hB hb8
  refine eE 2 5 (.move (.tmp 4)) 4 (.bool (letterB c)) h6 fun q10 h11 => ?_
  clear h6
  refine wpO_cut [(3, false), (4, false), (5, false)] [(6, false)] (fun qa qw => Fr 9 [(8, .bool ((letterB c) || (digitB c))), (2, .bool false)] qa ∧ Bx w [] qw) ?_ ?_
  ·
    rcases Bool.eq_false_or_eq_true (letterB c) with hc12 | hc12
    ·
      refine kE 3 6 (2, false) (g4 5 hc12) h11 trivial fun q13 h14 => ?_
      clear h11
      refine kE 4 7 (2, false) (g4 5 hc12) h14 trivial fun q15 h16 => ?_
      clear h14
      refine eE 5 8 (.pick (.tmp 5) (.const (.bool true)) (.tmp 7)) 4 (.bool ((letterB c) || (digitB c))) h16 (hr := r_or (c := letterB c) (d := (digitB c)) (by kernel_rfl) (fun e19 => Bool.noConfusion (e19.symm.trans hc12))) fun q17 h18 => ?_
      clear h16
      exact ⟨h18.keep _ ⟨rfl, rfl, trivial⟩, hB9⟩
    ·
      refine eG 3 6 (.move (.tmp 0)) 5 (2, false) (.int .u8 c) (g2 5 hc12) h11 fun q20 h21 => ?_
      clear h11
      refine stC (i := 4) (d := 7) (op := Op.call { callee := Callee.value (Operand.func 88), args := #[Operand.tmp 6], argTypes := #[5] }) (ty := 4) (g := (some (2, false))) (f := 88) (args := #[.int .u8 c]) (w1 := w7) h21 (by kernel_rfl) (by kernel_rfl) (by kernel_rfl) (g2 5 hc12) (by kernel_rfl) (c88 c w7) ?_
      rintro _ w24 ⟨rfl, hb25⟩
      have hB26 := hB9.call hb25
      refine ⟨_, rfl, trivial, fun q22 h23 => ?_⟩
      clear h21 hB9 hb25
      refine eE 5 8 (.pick (.tmp 5) (.const (.bool true)) (.tmp 7)) 4 (.bool ((letterB c) || (digitB c))) h23 (hr := r_or (c := letterB c) (d := (digitB c)) (by kernel_rfl) (fun _ => by kernel_rfl)) fun q27 h28 => ?_
      clear h23
      exact ⟨h28.keep _ ⟨rfl, rfl, trivial⟩, hB26⟩
  rintro q29 w30 ⟨h31, hB32⟩
  refine eE 6 2 (.assign (.tmp 8)) 4 (.bool ((letterB c) || (digitB c))) h31 fun q33 h34 => ?_
  clear h31
  refine wpO_end ?_
  have h35 := h34.keep [(2, .bool ((letterB c) || (digitB c)))] ⟨rfl, trivial⟩
  clear h34
  refine then_n ?_
  refine c_ret (by kernel_rfl) ?_
  refine ret1 (t := 2) (v := .bool ((letterB c) || (digitB c))) h35 (by kernel_rfl) (by kernel_rfl) ?_
  exact ⟨ret_eq (rfl), hB32.bel⟩

set_option maxHeartbeats 4000000 in
set_option maxRecDepth 20000 in
theorem c90 (c : Int) (w : World) : Calls Tryd.prog 90 #[.int .u8 c] w fun e w' => e = .returned (.bool (refB c)) ∧ Below w.heap.size w w' := by
  refine enter Tryd.func90 (by kernel_rfl) ?_ (by kernel_rfl)
  intro q0 h0
  replace h0 := h0.conv (l' := [(0, .int .u8 c)]) rfl
  have hB := Bx.refl w
  refine c_seq (by kernel_rfl) ?_
  refine reg_plain [(0, false)] (by kernel_rfl) (by kernel_rfl) ?_
  refine eE 0 2 (.assign (.const (.bool false))) 4 (.bool false) h0 fun q1 h2 => ?_
  clear h0
  refine wpO_end ?_
  refine then_n ?_
  refine c_seq (by kernel_rfl) ?_
  refine reg_plain [(0, false), (1, false), (2, false), (3, false), (4, false), (5, false), (6, false)] (by kernel_rfl) (by kernel_rfl) ?_
  refine eE 0 3 (.move (.tmp 0)) 5 (.int .u8 c) h2 fun q3 h4 => ?_
  clear h2
  refine stC (i := 1) (d := 4) (op := Op.call { callee := Callee.value (Operand.func 87), args := #[Operand.tmp 3], argTypes := #[5] }) (ty := 4) (g := none) (f := 87) (args := #[.int .u8 c]) (w1 := w) h4 (by kernel_rfl) (by kernel_rfl) (by kernel_rfl) gok_none (by kernel_rfl) (c87 c w) ?_
  rintro _ w7 ⟨rfl, hb8⟩
  have hB9 := hB.call hb8
  refine ⟨_, rfl, trivial, fun q5 h6 => ?_⟩
  clear h4 hB hb8
  refine eE 2 5 (.move (.tmp 4)) 4 (.bool (alnumB c)) h6 fun q10 h11 => ?_
  clear h6
  refine wpO_cut [(3, false), (4, false), (5, false)] [(6, false)] (fun qa qw => Fr 9 [(8, .bool ((alnumB c) || (c == (45 : Int)))), (2, .bool false)] qa ∧ Bx w [] qw) ?_ ?_
  ·
    rcases Bool.eq_false_or_eq_true (alnumB c) with hc12 | hc12
    ·
      refine kE 3 6 (2, false) (g4 5 hc12) h11 trivial fun q13 h14 => ?_
      clear h11
      refine kE 4 7 (2, false) (g4 5 hc12) h14 trivial fun q15 h16 => ?_
      clear h14
      refine eE 5 8 (.pick (.tmp 5) (.const (.bool true)) (.tmp 7)) 4 (.bool ((alnumB c) || (c == (45 : Int)))) h16 (hr := r_or (c := alnumB c) (d := (c == (45 : Int))) (by kernel_rfl) (fun e19 => Bool.noConfusion (e19.symm.trans hc12))) fun q17 h18 => ?_
      clear h16
      exact ⟨h18.keep _ ⟨rfl, rfl, trivial⟩, hB9⟩
    ·
      refine eG 3 6 (.move (.tmp 0)) 5 (2, false) (.int .u8 c) (g2 5 hc12) h11 fun q20 h21 => ?_
      clear h11
      refine eG 4 7 (.binOp .eql 5 (.tmp 6) (.const (.int .u8 45)) 5) 4 (2, false) (.bool (c == (45 : Int))) (g2 5 hc12) h21 fun q22 h23 => ?_
      clear h21
      refine eE 5 8 (.pick (.tmp 5) (.const (.bool true)) (.tmp 7)) 4 (.bool ((alnumB c) || (c == (45 : Int)))) h23 (hr := r_or (c := alnumB c) (d := (c == (45 : Int))) (by kernel_rfl) (fun _ => by kernel_rfl)) fun q24 h25 => ?_
      clear h23
      exact ⟨h25.keep _ ⟨rfl, rfl, trivial⟩, hB9⟩
  rintro q26 w27 ⟨h28, hB29⟩
  refine eE 6 2 (.assign (.tmp 8)) 4 (.bool ((alnumB c) || (c == (45 : Int)))) h28 fun q30 h31 => ?_
  clear h28
  refine wpO_end ?_
  have h32 := h31.keep [(2, .bool ((alnumB c) || (c == (45 : Int))))] ⟨rfl, trivial⟩
  clear h31
  refine then_n ?_
  refine c_ret (by kernel_rfl) ?_
  refine ret1 (t := 2) (v := .bool ((alnumB c) || (c == (45 : Int)))) h32 (by kernel_rfl) (by kernel_rfl) ?_
  exact ⟨ret_eq (rfl), hB29.bel⟩

set_option maxHeartbeats 4000000 in
set_option maxRecDepth 20000 in
theorem c92 (c : Int) (w : World) : Calls Tryd.prog 92 #[.int .u8 c] w fun e w' => e = .returned (.bool (letterB c)) ∧ Below w.heap.size w w' := by
  refine enter Tryd.func92 (by kernel_rfl) ?_ (by kernel_rfl)
  intro q0 h0
  replace h0 := h0.conv (l' := [(0, .int .u8 c)]) rfl
  have hB := Bx.refl w
  refine c_seq (by kernel_rfl) ?_
  refine reg_plain [(0, false)] (by kernel_rfl) (by kernel_rfl) ?_
  refine eE 0 2 (.assign (.const (.bool false))) 4 (.bool false) h0 fun q1 h2 => ?_
  clear h0
  refine wpO_end ?_
  refine then_n ?_
  refine c_seq (by kernel_rfl) ?_
  refine reg_plain [(0, false), (1, false), (2, false), (3, false), (4, false), (5, false), (6, false)] (by kernel_rfl) (by kernel_rfl) ?_
  refine eE 0 3 (.move (.tmp 0)) 5 (.int .u8 c) h2 fun q3 h4 => ?_
  clear h2
  refine eE 1 4 (.binOp .geq 5 (.tmp 3) (.const (.int .u8 65)) 5) 4 (.bool (decide ((65 : Int) ≤ c))) h4 fun q5 h6 => ?_
  clear h4
  refine eE 2 5 (.move (.tmp 4)) 4 (.bool (decide ((65 : Int) ≤ c))) h6 fun q7 h8 => ?_
  clear h6
  refine wpO_cut [(3, false), (4, false), (5, false)] [(6, false)] (fun qa qw => Fr 9 [(8, .bool ((decide ((65 : Int) ≤ c)) && (decide (c ≤ (90 : Int))))), (2, .bool false)] qa ∧ Bx w [] qw) ?_ ?_
  ·
    rcases Bool.eq_false_or_eq_true (decide ((65 : Int) ≤ c)) with hc9 | hc9
    ·
      refine eG 3 6 (.move (.tmp 0)) 5 (2, true) (.int .u8 c) (g1 5 hc9) h8 fun q10 h11 => ?_
      clear h8
      refine eG 4 7 (.binOp .leq 5 (.tmp 6) (.const (.int .u8 90)) 5) 4 (2, true) (.bool (decide (c ≤ (90 : Int)))) (g1 5 hc9) h11 fun q12 h13 => ?_
      clear h11
      refine eE 5 8 (.pick (.tmp 5) (.tmp 7) (.const (.bool false))) 4 (.bool ((decide ((65 : Int) ≤ c)) && (decide (c ≤ (90 : Int))))) h13 (hr := r_and (c := decide ((65 : Int) ≤ c)) (d := (decide (c ≤ (90 : Int)))) (by kernel_rfl) (fun _ => by kernel_rfl)) fun q14 h15 => ?_
      clear h13
      exact ⟨h15.keep _ ⟨rfl, rfl, trivial⟩, hB⟩
    ·
      refine kE 3 6 (2, true) (g3 5 hc9) h8 trivial fun q16 h17 => ?_
      clear h8
      refine kE 4 7 (2, true) (g3 5 hc9) h17 trivial fun q18 h19 => ?_
      clear h17
      refine eE 5 8 (.pick (.tmp 5) (.tmp 7) (.const (.bool false))) 4 (.bool ((decide ((65 : Int) ≤ c)) && (decide (c ≤ (90 : Int))))) h19 (hr := r_and (c := decide ((65 : Int) ≤ c)) (d := (decide (c ≤ (90 : Int)))) (by kernel_rfl) (fun e22 => Bool.noConfusion (e22.symm.trans hc9))) fun q20 h21 => ?_
      clear h19
      exact ⟨h21.keep _ ⟨rfl, rfl, trivial⟩, hB⟩
  rintro q23 w24 ⟨h25, hB26⟩
  refine eE 6 2 (.assign (.tmp 8)) 4 (.bool ((decide ((65 : Int) ≤ c)) && (decide (c ≤ (90 : Int))))) h25 fun q27 h28 => ?_
  clear h25
  refine wpO_end ?_
  have h29 := h28.keep [(2, .bool ((decide ((65 : Int) ≤ c)) && (decide (c ≤ (90 : Int)))))] ⟨rfl, trivial⟩
  clear h28
  refine then_n ?_
  refine c_ret (by kernel_rfl) ?_
  refine ret1 (t := 2) (v := .bool ((decide ((65 : Int) ≤ c)) && (decide (c ≤ (90 : Int))))) h29 (by kernel_rfl) (by kernel_rfl) ?_
  exact ⟨ret_eq (rfl), hB26.bel⟩

set_option maxHeartbeats 4000000 in
set_option maxRecDepth 20000 in
theorem c93 (c : Int) (w : World) : Calls Tryd.prog 93 #[.int .u8 c] w fun e w' => e = .returned (.bool (digitB c)) ∧ Below w.heap.size w w' := by
  refine enter Tryd.func93 (by kernel_rfl) ?_ (by kernel_rfl)
  intro q0 h0
  replace h0 := h0.conv (l' := [(0, .int .u8 c)]) rfl
  have hB := Bx.refl w
  refine c_seq (by kernel_rfl) ?_
  refine reg_plain [(0, false)] (by kernel_rfl) (by kernel_rfl) ?_
  refine eE 0 2 (.assign (.const (.bool false))) 4 (.bool false) h0 fun q1 h2 => ?_
  clear h0
  refine wpO_end ?_
  refine then_n ?_
  refine c_seq (by kernel_rfl) ?_
  refine reg_plain [(0, false), (1, false), (2, false), (3, false), (4, false), (5, false), (6, false)] (by kernel_rfl) (by kernel_rfl) ?_
  refine eE 0 3 (.move (.tmp 0)) 5 (.int .u8 c) h2 fun q3 h4 => ?_
  clear h2
  refine eE 1 4 (.binOp .geq 5 (.tmp 3) (.const (.int .u8 48)) 5) 4 (.bool (decide ((48 : Int) ≤ c))) h4 fun q5 h6 => ?_
  clear h4
  refine eE 2 5 (.move (.tmp 4)) 4 (.bool (decide ((48 : Int) ≤ c))) h6 fun q7 h8 => ?_
  clear h6
  refine wpO_cut [(3, false), (4, false), (5, false)] [(6, false)] (fun qa qw => Fr 9 [(8, .bool ((decide ((48 : Int) ≤ c)) && (decide (c ≤ (57 : Int))))), (2, .bool false)] qa ∧ Bx w [] qw) ?_ ?_
  ·
    rcases Bool.eq_false_or_eq_true (decide ((48 : Int) ≤ c)) with hc9 | hc9
    ·
      refine eG 3 6 (.move (.tmp 0)) 5 (2, true) (.int .u8 c) (g1 5 hc9) h8 fun q10 h11 => ?_
      clear h8
      refine eG 4 7 (.binOp .leq 5 (.tmp 6) (.const (.int .u8 57)) 5) 4 (2, true) (.bool (decide (c ≤ (57 : Int)))) (g1 5 hc9) h11 fun q12 h13 => ?_
      clear h11
      refine eE 5 8 (.pick (.tmp 5) (.tmp 7) (.const (.bool false))) 4 (.bool ((decide ((48 : Int) ≤ c)) && (decide (c ≤ (57 : Int))))) h13 (hr := r_and (c := decide ((48 : Int) ≤ c)) (d := (decide (c ≤ (57 : Int)))) (by kernel_rfl) (fun _ => by kernel_rfl)) fun q14 h15 => ?_
      clear h13
      exact ⟨h15.keep _ ⟨rfl, rfl, trivial⟩, hB⟩
    ·
      refine kE 3 6 (2, true) (g3 5 hc9) h8 trivial fun q16 h17 => ?_
      clear h8
      refine kE 4 7 (2, true) (g3 5 hc9) h17 trivial fun q18 h19 => ?_
      clear h17
      refine eE 5 8 (.pick (.tmp 5) (.tmp 7) (.const (.bool false))) 4 (.bool ((decide ((48 : Int) ≤ c)) && (decide (c ≤ (57 : Int))))) h19 (hr := r_and (c := decide ((48 : Int) ≤ c)) (d := (decide (c ≤ (57 : Int)))) (by kernel_rfl) (fun e22 => Bool.noConfusion (e22.symm.trans hc9))) fun q20 h21 => ?_
      clear h19
      exact ⟨h21.keep _ ⟨rfl, rfl, trivial⟩, hB⟩
  rintro q23 w24 ⟨h25, hB26⟩
  refine eE 6 2 (.assign (.tmp 8)) 4 (.bool ((decide ((48 : Int) ≤ c)) && (decide (c ≤ (57 : Int))))) h25 fun q27 h28 => ?_
  clear h25
  refine wpO_end ?_
  have h29 := h28.keep [(2, .bool ((decide ((48 : Int) ≤ c)) && (decide (c ≤ (57 : Int)))))] ⟨rfl, trivial⟩
  clear h28
  refine then_n ?_
  refine c_ret (by kernel_rfl) ?_
  refine ret1 (t := 2) (v := .bool ((decide ((48 : Int) ≤ c)) && (decide (c ≤ (57 : Int))))) h29 (by kernel_rfl) (by kernel_rfl) ?_
  exact ⟨ret_eq (rfl), hB26.bel⟩

theorem cCls (g : Nat) (hg : g = 86 ∨ g = 87 ∨ g = 88 ∨ g = 90) (c : Int) (w : World) : Calls Tryd.prog g #[.int .u8 c] w fun e w' => e = .returned (.bool (clsB g c)) ∧ Below w.heap.size w w' := by
  rcases hg with rfl | rfl | rfl | rfl
  · exact c86 c w
  · exact c87 c w
  · exact c88 c w
  · exact c90 c w

end Go.Proofs.YtljegdokbifoiaaDoor.Af
