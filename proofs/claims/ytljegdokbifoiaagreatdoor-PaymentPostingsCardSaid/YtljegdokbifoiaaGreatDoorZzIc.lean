/- Classes of characters. No condition. The kinds of identifiers and their classes. Short lists. The test of an identifier's first characters. Short lists. The check digit of a security's identifier. Short strings of letters and digits. Valid identifiers. No condition. -/
import Derived.Test.YtljegdokbifoiaaGreatDoorZzIdp
import Derived.Test.YtljegdokbifoiaaGreatDoorZzBd
namespace Go.Proofs.YtljegdokbifoiaaGreatDoor.Af
open Go.RowKit
set_option maxHeartbeats 4000000 in
set_option maxRecDepth 20000 in
theorem c86 (c : Int) (w : World) : Calls Tryz.prog 119 #[.int .u8 c] w fun e w' => e = .returned (.bool (letterB c)) ∧ Below w.heap.size w w' := by
  refine enter Tryz.func119 (by kernel_rfl) ?_ (by kernel_rfl)
  intro q0 h0
  replace h0 := h0.conv (l' := [(0, .int .u8 c)]) rfl
  have hB := Bx.refl w
  refine kS ?_
  refine rp 1 ?_
  refine b0 (.C 0 2 <| .nil) [(2, .bool false), (0, .int .u8 c)] h0 (Kw.nil hB) fun q1 h2 => ?_
  clear h0
  refine wpO_end ?_
  refine then_n ?_
  refine kS ?_
  refine rp 7 ?_
  refine b0 (.C 0 3 <| .E 1 4 (.bool (decide ((65 : Int) ≤ c))) <| .C 2 5 <| .J 5 8 5 7 true (decide ((65 : Int) ≤ c)) (decide (c ≤ (90 : Int))) (.C 3 6 <| .E 4 7 (.bool (decide (c ≤ (90 : Int)))) <| .nil) <| .C 6 2 <| .nil) [(2, .bool ((decide ((65 : Int) ≤ c)) && (decide (c ≤ (90 : Int)))))] h2 (Kw.nil hB) fun q3 h4 => ?_
  clear h2
  refine wpO_end ?_
  refine then_n ?_
  refine c_ret (by kernel_rfl) ?_
  refine ret1 (t := 2) (v := .bool ((decide ((65 : Int) ≤ c)) && (decide (c ≤ (90 : Int))))) h4 (by kernel_rfl) (by kernel_rfl) ?_
  exact ⟨ret_eq (rfl), hB.bel⟩

set_option maxHeartbeats 4000000 in
set_option maxRecDepth 20000 in
theorem c88 (c : Int) (w : World) : Calls Tryz.prog 121 #[.int .u8 c] w fun e w' => e = .returned (.bool (digitB c)) ∧ Below w.heap.size w w' := by
  refine enter Tryz.func121 (by kernel_rfl) ?_ (by kernel_rfl)
  intro q0 h0
  replace h0 := h0.conv (l' := [(0, .int .u8 c)]) rfl
  have hB := Bx.refl w
  refine kS ?_
  refine rp 1 ?_
  refine b0 (.C 0 2 <| .nil) [(2, .bool false), (0, .int .u8 c)] h0 (Kw.nil hB) fun q1 h2 => ?_
  clear h0
  refine wpO_end ?_
  refine then_n ?_
  refine kS ?_
  refine rp 7 ?_
  refine b0 (.C 0 3 <| .E 1 4 (.bool (decide ((48 : Int) ≤ c))) <| .C 2 5 <| .J 5 8 5 7 true (decide ((48 : Int) ≤ c)) (decide (c ≤ (57 : Int))) (.C 3 6 <| .E 4 7 (.bool (decide (c ≤ (57 : Int)))) <| .nil) <| .C 6 2 <| .nil) [(2, .bool ((decide ((48 : Int) ≤ c)) && (decide (c ≤ (57 : Int)))))] h2 (Kw.nil hB) fun q3 h4 => ?_
  clear h2
  refine wpO_end ?_
  refine then_n ?_
  refine c_ret (by kernel_rfl) ?_
  refine ret1 (t := 2) (v := .bool ((decide ((48 : Int) ≤ c)) && (decide (c ≤ (57 : Int))))) h4 (by kernel_rfl) (by kernel_rfl) ?_
  exact ⟨ret_eq (rfl), hB.bel⟩

set_option maxHeartbeats 4000000 in
set_option maxRecDepth 20000 in
theorem c87 (c : Int) (w : World) : Calls Tryz.prog 120 #[.int .u8 c] w fun e w' => e = .returned (.bool (alnumB c)) ∧ Below w.heap.size w w' := by
  refine enter Tryz.func120 (by kernel_rfl) ?_ (by kernel_rfl)
  intro q0 h0
  replace h0 := h0.conv (l' := [(0, .int .u8 c)]) rfl
  have hB := Bx.refl w
  refine kS ?_
  refine rp 1 ?_
  refine b0 (.C 0 2 <| .nil) [(2, .bool false), (0, .int .u8 c)] h0 (Kw.nil hB) fun q1 h2 => ?_
  clear h0
  refine wpO_end ?_
  refine then_n ?_
  refine kS ?_
  refine rp 7 ?_
  refine b0 (.C 0 3 <| .nil) [(3, .int .u8 c), (2, .bool false), (0, .int .u8 c)] h2 (Kw.nil hB) fun q3 h4 => ?_
  clear h2
  refine sC 1 4 h4 gok_none (c86 c w) ?_
  rintro _ w7 ⟨rfl, hb8⟩
  have hB9 := hB.call hb8
  refine ⟨_, rfl, trivial, fun q5 h6 => ?_⟩
  clear h4 hB hb8
  refine b0 (.C 2 5 <| .nil) [(5, .bool (letterB c)), (2, .bool false), (0, .int .u8 c)] h6 (Kw.nil hB9) fun q10 h11 => ?_
  clear h6
  refine wpO_cut [(3, false), (4, false), (5, false)] [(6, false)] (fun qa qw => Fr 9 [(8, .bool ((letterB c) || (digitB c))), (2, .bool false)] qa ∧ Bx w [] qw) ?_ ?_
  ·
    rcases Bool.eq_false_or_eq_true (letterB c) with hc12 | hc12
    ·
      refine b1 5 hc12 (.K 3 6 <| .K 4 7 <| .nil) [(7, undef), (5, .bool (letterB c)), (2, .bool false)] h11 (Kw.nil hB9) fun q13 h14 => ?_
      clear h11
      refine eE 5 8 (.pick (.tmp 5) (.const (.bool true)) (.tmp 7)) 4 (.bool ((letterB c) || (digitB c))) h14 (hr := r_or (c := letterB c) (d := (digitB c)) (by kernel_rfl) (fun e17 => Bool.noConfusion (e17.symm.trans hc12))) fun q15 h16 => ?_
      clear h14
      exact ⟨h16.keep _ ⟨rfl, rfl, trivial⟩, hB9⟩
    ·
      refine b1 5 hc12 (.C 3 6 <| .nil) [(6, .int .u8 c), (5, .bool (letterB c)), (2, .bool false)] h11 (Kw.nil hB9) fun q18 h19 => ?_
      clear h11
      refine sC 4 7 (g := (some (2, false))) h19 (g2 5 hc12) (c88 c w7) ?_
      rintro _ w22 ⟨rfl, hb23⟩
      have hB24 := hB9.call hb23
      refine ⟨_, rfl, trivial, fun q20 h21 => ?_⟩
      clear h19 hB9 hb23
      refine eE 5 8 (.pick (.tmp 5) (.const (.bool true)) (.tmp 7)) 4 (.bool ((letterB c) || (digitB c))) h21 (hr := r_or (c := letterB c) (d := (digitB c)) (by kernel_rfl) (fun _ => by kernel_rfl)) fun q25 h26 => ?_
      clear h21
      exact ⟨h26.keep _ ⟨rfl, rfl, trivial⟩, hB24⟩
  rintro q27 w28 ⟨h29, hB30⟩
  refine b0 (.C 6 2 <| .nil) [(2, .bool ((letterB c) || (digitB c)))] h29 (Kw.nil hB30) fun q31 h32 => ?_
  clear h29
  refine wpO_end ?_
  refine then_n ?_
  refine c_ret (by kernel_rfl) ?_
  refine ret1 (t := 2) (v := .bool ((letterB c) || (digitB c))) h32 (by kernel_rfl) (by kernel_rfl) ?_
  exact ⟨ret_eq (rfl), hB30.bel⟩

set_option maxHeartbeats 4000000 in
set_option maxRecDepth 20000 in
theorem c90 (c : Int) (w : World) : Calls Tryz.prog 123 #[.int .u8 c] w fun e w' => e = .returned (.bool (refB c)) ∧ Below w.heap.size w w' := by
  refine enter Tryz.func123 (by kernel_rfl) ?_ (by kernel_rfl)
  intro q0 h0
  replace h0 := h0.conv (l' := [(0, .int .u8 c)]) rfl
  have hB := Bx.refl w
  refine kS ?_
  refine rp 1 ?_
  refine b0 (.C 0 2 <| .nil) [(2, .bool false), (0, .int .u8 c)] h0 (Kw.nil hB) fun q1 h2 => ?_
  clear h0
  refine wpO_end ?_
  refine then_n ?_
  refine kS ?_
  refine rp 7 ?_
  refine b0 (.C 0 3 <| .nil) [(3, .int .u8 c), (2, .bool false), (0, .int .u8 c)] h2 (Kw.nil hB) fun q3 h4 => ?_
  clear h2
  refine sC 1 4 h4 gok_none (c87 c w) ?_
  rintro _ w7 ⟨rfl, hb8⟩
  have hB9 := hB.call hb8
  refine ⟨_, rfl, trivial, fun q5 h6 => ?_⟩
  clear h4 hB hb8
  refine b0 (.C 2 5 <| .J 5 8 5 7 false (alnumB c) (c == (45 : Int)) (.C 3 6 <| .E 4 7 (.bool (c == (45 : Int))) <| .nil) <| .C 6 2 <| .nil) [(2, .bool ((alnumB c) || (c == (45 : Int))))] h6 (Kw.nil hB9) fun q10 h11 => ?_
  clear h6
  refine wpO_end ?_
  refine then_n ?_
  refine c_ret (by kernel_rfl) ?_
  refine ret1 (t := 2) (v := .bool ((alnumB c) || (c == (45 : Int)))) h11 (by kernel_rfl) (by kernel_rfl) ?_
  exact ⟨ret_eq (rfl), hB9.bel⟩

set_option maxHeartbeats 4000000 in
set_option maxRecDepth 20000 in
theorem c92 (c : Int) (w : World) : Calls Tryz.prog 145 #[.int .u8 c] w fun e w' => e = .returned (.bool (letterB c)) ∧ Below w.heap.size w w' := by
  refine enter Tryz.func145 (by kernel_rfl) ?_ (by kernel_rfl)
  intro q0 h0
  replace h0 := h0.conv (l' := [(0, .int .u8 c)]) rfl
  have hB := Bx.refl w
  refine kS ?_
  refine rp 1 ?_
  refine b0 (.C 0 2 <| .nil) [(2, .bool false), (0, .int .u8 c)] h0 (Kw.nil hB) fun q1 h2 => ?_
  clear h0
  refine wpO_end ?_
  refine then_n ?_
  refine kS ?_
  refine rp 7 ?_
  refine b0 (.C 0 3 <| .E 1 4 (.bool (decide ((65 : Int) ≤ c))) <| .C 2 5 <| .J 5 8 5 7 true (decide ((65 : Int) ≤ c)) (decide (c ≤ (90 : Int))) (.C 3 6 <| .E 4 7 (.bool (decide (c ≤ (90 : Int)))) <| .nil) <| .C 6 2 <| .nil) [(2, .bool ((decide ((65 : Int) ≤ c)) && (decide (c ≤ (90 : Int)))))] h2 (Kw.nil hB) fun q3 h4 => ?_
  clear h2
  refine wpO_end ?_
  refine then_n ?_
  refine c_ret (by kernel_rfl) ?_
  refine ret1 (t := 2) (v := .bool ((decide ((65 : Int) ≤ c)) && (decide (c ≤ (90 : Int))))) h4 (by kernel_rfl) (by kernel_rfl) ?_
  exact ⟨ret_eq (rfl), hB.bel⟩

set_option maxHeartbeats 4000000 in
set_option maxRecDepth 20000 in
theorem c93 (c : Int) (w : World) : Calls Tryz.prog 146 #[.int .u8 c] w fun e w' => e = .returned (.bool (digitB c)) ∧ Below w.heap.size w w' := by
  refine enter Tryz.func146 (by kernel_rfl) ?_ (by kernel_rfl)
  intro q0 h0
  replace h0 := h0.conv (l' := [(0, .int .u8 c)]) rfl
  have hB := Bx.refl w
  refine kS ?_
  refine rp 1 ?_
  refine b0 (.C 0 2 <| .nil) [(2, .bool false), (0, .int .u8 c)] h0 (Kw.nil hB) fun q1 h2 => ?_
  clear h0
  refine wpO_end ?_
  refine then_n ?_
  refine kS ?_
  refine rp 7 ?_
  refine b0 (.C 0 3 <| .E 1 4 (.bool (decide ((48 : Int) ≤ c))) <| .C 2 5 <| .J 5 8 5 7 true (decide ((48 : Int) ≤ c)) (decide (c ≤ (57 : Int))) (.C 3 6 <| .E 4 7 (.bool (decide (c ≤ (57 : Int)))) <| .nil) <| .C 6 2 <| .nil) [(2, .bool ((decide ((48 : Int) ≤ c)) && (decide (c ≤ (57 : Int)))))] h2 (Kw.nil hB) fun q3 h4 => ?_
  clear h2
  refine wpO_end ?_
  refine then_n ?_
  refine c_ret (by kernel_rfl) ?_
  refine ret1 (t := 2) (v := .bool ((decide ((48 : Int) ≤ c)) && (decide (c ≤ (57 : Int))))) h4 (by kernel_rfl) (by kernel_rfl) ?_
  exact ⟨ret_eq (rfl), hB.bel⟩

theorem cCls (g : Nat) (hg : g = 119 ∨ g = 120 ∨ g = 121 ∨ g = 123) (c : Int) (w : World) : Calls Tryz.prog g #[.int .u8 c] w fun e w' => e = .returned (.bool (clsB g c)) ∧ Below w.heap.size w w' := by
  rcases hg with rfl | rfl | rfl | rfl
  · exact c86 c w
  · exact c87 c w
  · exact c88 c w
  · exact c90 c w

end Go.Proofs.YtljegdokbifoiaaGreatDoor.Af

namespace Go.Proofs.YtljegdokbifoiaaGreatDoor.Af
open Go.RowKit
set_option maxHeartbeats 4000000 in
set_option maxRecDepth 20000 in
theorem c67  (w : World) : Calls Tryz.prog 103 #[] w (fun e w' => ∃ b0 b1 b2 b3 : Nat, e = .returned (.agg #[.int .i64 12, .slice (some ⟨b0, 0, none⟩) 3 3, .int .i64 11, .func (.func 122) #[] #[], .int .i64 4, .slice (some ⟨b1, 0, none⟩) 2 2, .int .i64 0, .nilFunc, .int .i64 1, .slice (some ⟨b2, 0, none⟩) 1 1, .int .i64 0, .nilFunc, .int .i64 20, .slice (some ⟨b3, 0, none⟩) 2 2, .int .i64 18, .func (.func 124) #[] #[]]) ∧ Rd w' (some ⟨b0, 0, none⟩) (spanC sp0) ∧ Rd w' (some ⟨b1, 0, none⟩) (spanC sp1) ∧ Rd w' (some ⟨b2, 0, none⟩) (spanC sp2) ∧ Below w.heap.size w w') := by
  refine enter Tryz.func103 (by kernel_rfl) ?_ (by kernel_rfl)
  intro q0 h0
  replace h0 := h0.conv (l' := []) rfl
  have hB := Bx.refl w
  refine kS ?_
  refine rp 1 ?_
  refine sA 0 0 (fun b => .pointer (some ⟨b, 0, none⟩)) (.cells #[.int .i64 0, .slice none 0 0, .int .i64 0, .nilFunc, .int .i64 0, .slice none 0 0, .int .i64 0, .nilFunc, .int .i64 0, .slice none 0 0, .int .i64 0, .nilFunc, .int .i64 0, .slice none 0 0, .int .i64 0, .nilFunc] 180 (0, 0)) h0 gok_none hB (fun _ _ hq => trivial) (fun b3 w4 hB5 hN q1 h2 => ?_)
  clear h0 hB hN
  refine wpO_end ?_
  refine then_n ?_
  refine kS ?_
  refine rp 18 ?_
  refine b0 (.E 0 1 (.agg #[.int .i64 2, .func (.func 119) #[] #[]]) <| .E 1 2 (.agg #[.int .i64 9, .func (.func 120) #[] #[]]) <| .E 2 3 (.agg #[.int .i64 1, .func (.func 121) #[] #[]]) <| .nil) [(3, .agg #[.int .i64 1, .func (.func 121) #[] #[]]), (2, .agg #[.int .i64 9, .func (.func 120) #[] #[]]), (1, .agg #[.int .i64 2, .func (.func 119) #[] #[]]), (0, .pointer (some ⟨b3, 0, none⟩))] h2 (Kw.nil hB5) fun q6 h7 => ?_
  clear h2
  refine sA 3 4 (fun b => .slice (some ⟨b, 0, none⟩) 3 3) (.cells #[.int .i64 2, .func (.func 119) #[] #[], .int .i64 9, .func (.func 120) #[] #[], .int .i64 1, .func (.func 121) #[] #[]] 200 (0, 0)) h7 gok_none hB5 (fun _ _ hq => trivial) (fun b10 w11 hB12 hN q8 h9 => ?_)
  clear h7 hB5 hN
  refine b0 (.E 4 5 (.agg #[.int .i64 12, .slice (some ⟨b10, 0, none⟩) 3 3, .int .i64 11, .func (.func 122) #[] #[]]) <| .E 5 6 (.agg #[.int .i64 1, .func (.func 119) #[] #[]]) <| .E 6 7 (.agg #[.int .i64 7, .func (.func 120) #[] #[]]) <| .nil) [(7, .agg #[.int .i64 7, .func (.func 120) #[] #[]]), (6, .agg #[.int .i64 1, .func (.func 119) #[] #[]]), (5, .agg #[.int .i64 12, .slice (some ⟨b10, 0, none⟩) 3 3, .int .i64 11, .func (.func 122) #[] #[]]), (0, .pointer (some ⟨b3, 0, none⟩))] h9 (Kw.nil hB12) fun q13 h14 => ?_
  clear h9
  refine sA 7 8 (fun b => .slice (some ⟨b, 0, none⟩) 2 2) (.cells #[.int .i64 1, .func (.func 119) #[] #[], .int .i64 7, .func (.func 120) #[] #[]] 200 (0, 0)) h14 gok_none hB12 (fun _ _ hq => trivial) (fun b17 w18 hB19 hN q15 h16 => ?_)
  clear h14 hB12 hN
  refine b0 (.E 8 9 (.agg #[.int .i64 4, .slice (some ⟨b17, 0, none⟩) 2 2, .int .i64 0, .nilFunc]) <| .E 9 10 (.agg #[.int .i64 16, .func (.func 123) #[] #[]]) <| .nil) [(10, .agg #[.int .i64 16, .func (.func 123) #[] #[]]), (9, .agg #[.int .i64 4, .slice (some ⟨b17, 0, none⟩) 2 2, .int .i64 0, .nilFunc]), (5, .agg #[.int .i64 12, .slice (some ⟨b10, 0, none⟩) 3 3, .int .i64 11, .func (.func 122) #[] #[]]), (0, .pointer (some ⟨b3, 0, none⟩))] h16 (Kw.nil hB19) fun q20 h21 => ?_
  clear h16
  refine sA 10 11 (fun b => .slice (some ⟨b, 0, none⟩) 1 1) (.cells #[.int .i64 16, .func (.func 123) #[] #[]] 200 (0, 0)) h21 gok_none hB19 (fun _ _ hq => trivial) (fun b24 w25 hB26 hN q22 h23 => ?_)
  clear h21 hB19 hN
  refine b0 (.E 11 12 (.agg #[.int .i64 1, .slice (some ⟨b24, 0, none⟩) 1 1, .int .i64 0, .nilFunc]) <| .E 12 13 (.agg #[.int .i64 18, .func (.func 120) #[] #[]]) <| .E 13 14 (.agg #[.int .i64 2, .func (.func 121) #[] #[]]) <| .nil) [(14, .agg #[.int .i64 2, .func (.func 121) #[] #[]]), (13, .agg #[.int .i64 18, .func (.func 120) #[] #[]]), (12, .agg #[.int .i64 1, .slice (some ⟨b24, 0, none⟩) 1 1, .int .i64 0, .nilFunc]), (9, .agg #[.int .i64 4, .slice (some ⟨b17, 0, none⟩) 2 2, .int .i64 0, .nilFunc]), (5, .agg #[.int .i64 12, .slice (some ⟨b10, 0, none⟩) 3 3, .int .i64 11, .func (.func 122) #[] #[]]), (0, .pointer (some ⟨b3, 0, none⟩))] h23 (Kw.nil hB26) fun q27 h28 => ?_
  clear h23
  refine sA 14 15 (fun b => .slice (some ⟨b, 0, none⟩) 2 2) (.cells #[.int .i64 18, .func (.func 120) #[] #[], .int .i64 2, .func (.func 121) #[] #[]] 200 (0, 0)) h28 gok_none hB26 (fun _ _ hq => trivial) (fun b31 w32 hB33 hN q29 h30 => ?_)
  clear h28 hB26 hN
  refine b0 (.E 15 16 (.agg #[.int .i64 20, .slice (some ⟨b31, 0, none⟩) 2 2, .int .i64 18, .func (.func 124) #[] #[]]) <| .E 16 17 (.agg #[.int .i64 12, .slice (some ⟨b10, 0, none⟩) 3 3, .int .i64 11, .func (.func 122) #[] #[], .int .i64 4, .slice (some ⟨b17, 0, none⟩) 2 2, .int .i64 0, .nilFunc, .int .i64 1, .slice (some ⟨b24, 0, none⟩) 1 1, .int .i64 0, .nilFunc, .int .i64 20, .slice (some ⟨b31, 0, none⟩) 2 2, .int .i64 18, .func (.func 124) #[] #[]]) <| .nil) [(17, .agg #[.int .i64 12, .slice (some ⟨b10, 0, none⟩) 3 3, .int .i64 11, .func (.func 122) #[] #[], .int .i64 4, .slice (some ⟨b17, 0, none⟩) 2 2, .int .i64 0, .nilFunc, .int .i64 1, .slice (some ⟨b24, 0, none⟩) 1 1, .int .i64 0, .nilFunc, .int .i64 20, .slice (some ⟨b31, 0, none⟩) 2 2, .int .i64 18, .func (.func 124) #[] #[]]), (0, .pointer (some ⟨b3, 0, none⟩))] h30 (Kw.nil hB33) fun q34 h35 => ?_
  clear h30
  refine sW 17 4 0 [(b31, .cells #[.int .i64 18, .func (.func 120) #[] #[], .int .i64 2, .func (.func 121) #[] #[]] 200 (0, 0)), (b24, .cells #[.int .i64 16, .func (.func 123) #[] #[]] 200 (0, 0)), (b17, .cells #[.int .i64 1, .func (.func 119) #[] #[], .int .i64 7, .func (.func 120) #[] #[]] 200 (0, 0)), (b10, .cells #[.int .i64 2, .func (.func 119) #[] #[], .int .i64 9, .func (.func 120) #[] #[], .int .i64 1, .func (.func 121) #[] #[]] 200 (0, 0)), (b3, .cells #[.int .i64 12, .slice (some ⟨b10, 0, none⟩) 3 3, .int .i64 11, .func (.func 122) #[] #[], .int .i64 4, .slice (some ⟨b17, 0, none⟩) 2 2, .int .i64 0, .nilFunc, .int .i64 1, .slice (some ⟨b24, 0, none⟩) 1 1, .int .i64 0, .nilFunc, .int .i64 20, .slice (some ⟨b31, 0, none⟩) 2 2, .int .i64 18, .func (.func 124) #[] #[]] 180 (0, 0))] h35 gok_none hB33 (.inr fun _ _ => trivial) (fun w38 hB39 hT q36 h37 => ?_)
  clear h35 hB33
  clear hT
  refine wpO_end ?_
  have h40 := h37.keep [(0, .pointer (some ⟨b3, 0, none⟩))] ⟨rfl, trivial⟩
  clear h37
  refine then_n ?_
  refine c_ret (by kernel_rfl) ?_
  refine retC (t := 0) (T := 180) (b := b3) (vs := [.int .i64 12, .slice (some ⟨b10, 0, none⟩) 3 3, .int .i64 11, .func (.func 122) #[] #[], .int .i64 4, .slice (some ⟨b17, 0, none⟩) 2 2, .int .i64 0, .nilFunc, .int .i64 1, .slice (some ⟨b24, 0, none⟩) 1 1, .int .i64 0, .nilFunc, .int .i64 20, .slice (some ⟨b31, 0, none⟩) 2 2, .int .i64 18, .func (.func 124) #[] #[]]) h40 (by kernel_rfl) (by kernel_rfl) hB39 4 (by kernel_rfl) (by kernel_rfl) (by kernel_rfl) ?_
  exact ⟨b10, b17, b24, b31, rfl, Rd.of_blk (hB39.at 3 rfl), Rd.of_blk (hB39.at 2 rfl), Rd.of_blk (hB39.at 1 rfl), hB39.bel⟩

set_option maxHeartbeats 4000000 in
set_option maxRecDepth 20000 in
theorem c69 (sh bd : Int) (fv : Value) (sp : List (Nat × Nat)) (A : Option Addr) (c : Nat) (w : World) (hn : sp.length ≤ 1000) (hcl : (clsOf sp).length ≤ 1000) (hr : Rd w A (spanC sp)) : Calls Tryz.prog 105 #[.agg #[.int .i64 sh, .slice A sp.length c, .int .i64 bd, fv]] w (fun e w' => ∃ v : Value, e = .returned v ∧ w'.ownsRow w.heap.size 198 1 v (clsOf sp).length ((clsOf sp).map fnV) ∧ Below w.heap.size w w') := by
  refine enter Tryz.func105 (by kernel_rfl) ?_ (by kernel_rfl)
  intro q0 h0
  replace h0 := h0.conv (l' := [(0, .agg #[.int .i64 sh, .slice A sp.length c, .int .i64 bd, fv])]) rfl
  have hB := Bx.refl w
  refine kS ?_
  refine rp 2 ?_
  refine sA 0 1 (fun b => .pointer (some ⟨b, 0, none⟩)) (.cells #[.int .i64 sh, .slice A sp.length c, .int .i64 bd, fv] 179 (0, 0)) h0 gok_none hB (fun _ _ hq => trivial) (fun b3 w4 hB5 hN q1 h2 => ?_)
  clear h0 hB hN
  refine b0 (.C 1 2 <| .nil) [(2, .slice none 0 0), (1, .pointer (some ⟨b3, 0, none⟩))] h2 (Kw.nil hB5) fun q6 h7 => ?_
  clear h2
  refine wpO_end ?_
  refine then_n ?_
  refine kS ?_
  refine rp 1 ?_
  refine b0 (.C 0 3 <| .nil) [(3, .slice none 0 0), (2, .slice none 0 0), (1, .pointer (some ⟨b3, 0, none⟩))] h7 (Kw.nil hB5) fun q8 h9 => ?_
  clear h7
  refine wpO_end ?_
  refine then_n ?_
  refine kS ?_
  refine kS ?_
  refine rp 4 ?_
  refine b0 (.C 0 6 <| .L 1 7 0 1 <| .E 2 8 (.int .i64 ((sp.length : Nat) : Int)) <| .C 3 9 <| .nil) [(9, .int .i64 0), (8, .int .i64 ((sp.length : Nat) : Int)), (7, .slice A sp.length c), (3, .slice none 0 0), (2, .slice none 0 0)] h9 (Kw.nil hB5) fun q10 h11 => ?_
  clear h9
  refine wpO_end ?_
  refine then_n ?_
  refine c_block 0 (by kernel_rfl) ?_
  refine c_loop (by kernel_rfl) (fun qa qw => ∃ k : Nat, ∃ (v : Value), (k ≤ sp.length) ∧ Fr 25 [(7, .slice A sp.length c), (8, .int .i64 ((sp.length : Nat) : Int)), (9, .int .i64 ((k : Nat) : Int)), (3, v)] qa ∧ Bx w [(b3, .cells #[.int .i64 sh, .slice A sp.length c, .int .i64 bd, fv] 179 (0, 0))] qw ∧ (qw.ownsRow w.heap.size 198 1 v (clsOf (sp.take k)).length ((clsOf (sp.take k)).map fnV))) (fun qa _ => (((sp.length : Int)) - intAt qa 9).toNat) ⟨0, .slice none 0 0, Nat.zero_le _, h11.keep _ ⟨rfl, rfl, rfl, rfl, trivial⟩, hB5, own_nil _ _ _ _⟩ ?_
  rintro q12 w13 ⟨k, v, hk16, h14, hB15, hx18⟩
  have hm17 := h14.int (k := 9) (kd := .i64) (z := ((k : Nat) : Int)) rfl
  clear h11 hB5
  refine kS ?_
  refine rp 1 ?_
  refine b0 (.E 0 10 (.bool (decide (((k : Nat) : Int) < ((sp.length : Nat) : Int)))) <| .nil) [(10, .bool (decide (((k : Nat) : Int) < ((sp.length : Nat) : Int)))), (7, .slice A sp.length c), (8, .int .i64 ((sp.length : Nat) : Int)), (9, .int .i64 ((k : Nat) : Int)), (3, v)] h14 (Kw.nil hB15) fun q19 h20 => ?_
  clear h14
  refine wpO_end ?_
  refine then_n ?_
  refine kS ?_
  refine kC 10 (decide (((k : Nat) : Int) < ((sp.length : Nat) : Int))) h20 (fun hc21 => ?_) (fun hc21 => ?_)
  ·
    have hp22 : (((k : Nat) : Int) < ((sp.length : Nat) : Int)) := of_decide_eq_true hc21
    have hlt : k < sp.length := by omega
    obtain ⟨x, hx⟩ : ∃ x, sp[k]? = some x := ⟨sp[k], List.getElem?_eq_getElem hlt⟩
    obtain ⟨ad, hA, hE0⟩ := hr.el (k * 2) [.int .i64 ((x.1 : Nat) : Int), fnV x.2] (by simp) (spanC_get sp k x hx)
    subst hA
    refine c_skip (by kernel_rfl) ?_
    refine then_n ?_
    refine kS ?_
    refine c_block 1 (by kernel_rfl) ?_
    refine kS ?_
    refine rp 4 ?_
    refine eE 0 11 (.indexAddr 176 (.tmp 7) (.tmp 9)) 0 (.pointer (some ((ad.add (k * 2)).add 0))) h20 (hr := r_index0 (n := sp.length) (c := c) (kd := .i64) (by kernel_rfl) (by kernel_rfl) hlt (by kernel_rfl)) fun q23 h24 => ?_
    clear h20
    refine b0 (.Y 1 12 0 0 2 <| .nil) [(12, .agg #[.int .i64 ((x.1 : Nat) : Int), .func (.func x.2) #[] #[]]), (10, .bool (decide (((k : Nat) : Int) < ((sp.length : Nat) : Int)))), (7, .slice (some ad) sp.length c), (8, .int .i64 ((sp.length : Nat) : Int)), (9, .int .i64 ((k : Nat) : Int)), (3, v)] h24 ((Kw.nil hB15).cons (hE0.below hB15.bel)) fun q25 h26 => ?_
    clear h24
    refine sA 2 5 (fun b => .pointer (some ⟨b, 0, none⟩)) (.cells #[.int .i64 0, .nilFunc] 200 (0, 0)) h26 gok_none hB15 (fun _ _ hq => trivial) (fun b29 w30 hB31 hN q27 h28 => ?_)
    have ho32 := own_below hx18 hN
    clear h26 hB15 hN
    refine sW 3 0 0 [(b29, .cells #[.int .i64 ((x.1 : Nat) : Int), .func (.func x.2) #[] #[]] 200 (0, 0)), (b3, .cells #[.int .i64 sh, .slice (some ad) sp.length c, .int .i64 bd, fv] 179 (0, 0))] h28 gok_none hB31 (.inr fun _ _ => trivial) (fun w35 hB36 hT q33 h34 => ?_)
    clear h28 hB31
    have ho37 := own_turned ho32 hT (by kernel_rfl)
    clear hT
    refine wpO_end ?_
    have h38 := h34.keep [(5, .pointer (some ⟨b29, 0, none⟩)), (10, .bool (decide (((k : Nat) : Int) < ((sp.length : Nat) : Int)))), (7, .slice (some ad) sp.length c), (8, .int .i64 ((sp.length : Nat) : Int)), (9, .int .i64 ((k : Nat) : Int)), (3, v)] ⟨rfl, rfl, rfl, rfl, rfl, rfl, trivial⟩
    clear h34
    refine then_n ?_
    refine kS ?_
    refine rp 3 ?_
    refine b0 (.C 0 13 <| .L 1 14 0 0 <| .C 2 15 <| .nil) [(15, .int .i64 0), (14, .int .i64 ((x.1 : Nat) : Int)), (5, .pointer (some ⟨b29, 0, none⟩)), (10, .bool (decide (((k : Nat) : Int) < ((sp.length : Nat) : Int)))), (7, .slice (some ad) sp.length c), (8, .int .i64 ((sp.length : Nat) : Int)), (9, .int .i64 ((k : Nat) : Int)), (3, v)] h38 (Kw.nil hB36) fun q39 h40 => ?_
    clear h38
    refine wpO_end ?_
    refine then_n ?_
    refine c_block 2 (by kernel_rfl) ?_
    refine c_loop (by kernel_rfl) (fun qa qw => ∃ j : Nat, ∃ (v : Value), (j ≤ x.1) ∧ Fr 25 [(7, .slice (some ad) sp.length c), (8, .int .i64 ((sp.length : Nat) : Int)), (9, .int .i64 ((k : Nat) : Int)), (5, .pointer (some ⟨b29, 0, none⟩)), (14, .int .i64 ((x.1 : Nat) : Int)), (15, .int .i64 ((j : Nat) : Int)), (3, v)] qa ∧ Bx w [(b29, .cells #[.int .i64 ((x.1 : Nat) : Int), .func (.func x.2) #[] #[]] 200 (0, 0)), (b3, .cells #[.int .i64 sh, .slice (some ad) sp.length c, .int .i64 bd, fv] 179 (0, 0))] qw ∧ (qw.ownsRow w.heap.size 198 1 v ((clsOf (sp.take k)).length + j) ((clsOf (sp.take k)).map fnV ++ List.replicate j (fnV x.2)))) (fun qa _ => ((((x.1 : Nat) : Int)) - intAt qa 15).toNat) ⟨0, v, Nat.zero_le _, h40.keep _ ⟨rfl, rfl, rfl, rfl, rfl, rfl, rfl, trivial⟩, hB36, by rw [List.replicate_zero, List.append_nil]; exact ho37⟩ ?_
    rintro q41 w42 ⟨j, v, hk45, h43, hB44, hx47⟩
    have hm46 := h43.int (k := 15) (kd := .i64) (z := ((j : Nat) : Int)) rfl
    clear h40 hB36
    refine kS ?_
    refine rp 1 ?_
    refine b0 (.E 0 16 (.bool (decide (((j : Nat) : Int) < ((x.1 : Nat) : Int)))) <| .nil) [(16, .bool (decide (((j : Nat) : Int) < ((x.1 : Nat) : Int)))), (7, .slice (some ad) sp.length c), (8, .int .i64 ((sp.length : Nat) : Int)), (9, .int .i64 ((k : Nat) : Int)), (5, .pointer (some ⟨b29, 0, none⟩)), (14, .int .i64 ((x.1 : Nat) : Int)), (15, .int .i64 ((j : Nat) : Int)), (3, v)] h43 (Kw.nil hB44) fun q48 h49 => ?_
    clear h43
    refine wpO_end ?_
    refine then_n ?_
    refine kS ?_
    refine kC 16 (decide (((j : Nat) : Int) < ((x.1 : Nat) : Int))) h49 (fun hc50 => ?_) (fun hc50 => ?_)
    ·
      have hp51 : (((j : Nat) : Int) < ((x.1 : Nat) : Int)) := of_decide_eq_true hc50
      have hjl : j < x.1 := by omega
      have hcb := clsOf_len sp k x hx
      refine c_skip (by kernel_rfl) ?_
      refine then_n ?_
      refine kS ?_
      refine c_block 3 (by kernel_rfl) ?_
      refine rp 6 ?_
      refine b0 (.C 0 17 <| .C 1 18 <| .L 2 19 0 1 <| .nil) [(19, .func (.func x.2) #[] #[]), (17, v), (16, .bool (decide (((j : Nat) : Int) < ((x.1 : Nat) : Int)))), (7, .slice (some ad) sp.length c), (8, .int .i64 ((sp.length : Nat) : Int)), (9, .int .i64 ((k : Nat) : Int)), (5, .pointer (some ⟨b29, 0, none⟩)), (14, .int .i64 ((x.1 : Nat) : Int)), (15, .int .i64 ((j : Nat) : Int)), (3, v)] h49 (Kw.nil hB44) fun q52 h53 => ?_
      clear h49
      refine sA 3 20 (fun b => .slice (some ⟨b, 0, none⟩) 1 1) (.cells #[.func (.func x.2) #[] #[]] 198 (0, 0)) h53 gok_none hB44 (fun _ _ hq => trivial) (fun b56 w57 hB58 hN q54 h55 => ?_)
      have ho59 := own_below hx47 hN
      clear h53 hB44 hN
      have hr68 := Rd.of_blk (hB58.at 0 rfl)
      refine stApp (x := Operand.tmp 17) (y := Operand.tmp 20) (i := 4) (d := 21) (t := 183) (e := 198) (size := 1) (bytes := 8) (base := w.heap.size) (nn := ((clsOf (sp.take k)).length + j)) (m := 1) (c := 1) (ty := 183) (g := none) (v := v) (xs := ((clsOf (sp.take k)).map fnV ++ List.replicate j (fnV x.2))) (news := [.func (.func x.2) #[] #[]]) (ad := ⟨b56, 0, none⟩) h55 (by kernel_rfl) (by kernel_rfl) (by kernel_rfl) gok_none (by kernel_rfl) (by decide) (by kernel_rfl) (by kernel_rfl) ho59 (by kernel_rfl) (fun j u hj => by obtain ⟨ad', e1, -, h1⟩ := hr68 j u hj; cases e1; exact h1) (by intro u hu; revert u hu; simp only [List.forall_mem_cons]; exact ⟨rfl, fun _ h => absurd h (by simp)⟩) (by first | (unfold maxLen; omega) | omega) (by first | (unfold maxLen; omega) | omega) hB58.tail hB58.bel.size (Nat.le_refl _) (by kernel_rfl) (fun _ hq => trivial) (fun v62 w63 ho64 hg65 hB66 hz67 q60 h61 => ?_)
      clear h55 hB58 hr68
      refine b0 (.C 5 3 <| .nil) [(3, v62), (16, .bool (decide (((j : Nat) : Int) < ((x.1 : Nat) : Int)))), (7, .slice (some ad) sp.length c), (8, .int .i64 ((sp.length : Nat) : Int)), (9, .int .i64 ((k : Nat) : Int)), (5, .pointer (some ⟨b29, 0, none⟩)), (14, .int .i64 ((x.1 : Nat) : Int)), (15, .int .i64 ((j : Nat) : Int))] h61 (Kw.nil hB66) fun q69 h70 => ?_
      clear h61
      refine wpO_end ?_
      refine inB_n ?_
      refine then_n ?_
      refine rp 2 ?_
      refine b0 (.E 0 22 (.int .i64 (IntKind.i64.wrap (((j : Nat) : Int) + 1))) <| .C 1 15 <| .nil) [(15, .int .i64 (IntKind.i64.wrap (((j : Nat) : Int) + 1))), (3, v62), (16, .bool (decide (((j : Nat) : Int) < ((x.1 : Nat) : Int)))), (7, .slice (some ad) sp.length c), (8, .int .i64 ((sp.length : Nat) : Int)), (9, .int .i64 ((k : Nat) : Int)), (5, .pointer (some ⟨b29, 0, none⟩)), (14, .int .i64 ((x.1 : Nat) : Int))] h70 (Kw.nil hB66) fun q71 h72 => ?_
      clear h70
      refine wpO_end ?_
      have h73 := h72.keep [(7, .slice (some ad) sp.length c), (8, .int .i64 ((sp.length : Nat) : Int)), (9, .int .i64 ((k : Nat) : Int)), (5, .pointer (some ⟨b29, 0, none⟩)), (14, .int .i64 ((x.1 : Nat) : Int)), (15, .int .i64 (((j + 1) : Nat) : Int)), (3, v62)] ⟨rfl, rfl, rfl, rfl, rfl, look_int rfl (wrap_succ (by have := hcl; omega)), rfl, trivial⟩
      have hm74 := h73.int (k := 15) (kd := .i64) (z := (((j + 1) : Nat) : Int)) rfl
      refine then_n ⟨⟨j + 1, v62, by omega, h73, hB66, by rw [← rep_snoc]; exact ho64⟩, ?_⟩
      show ((((x.1 : Nat) : Int)) - intAt _ 15).toNat < ((((x.1 : Nat) : Int)) - intAt _ 15).toNat
      rw [hm46, hm74]; omega
    have hp75 : ¬ (((j : Nat) : Int) < ((x.1 : Nat) : Int)) := of_decide_eq_false hc50
    obtain rfl : j = x.1 := by omega
    refine c_exit 2 (by kernel_rfl) ?_
    refine then_e (then_e (inB_hit ?_))
    refine inB_n ?_
    refine then_n ?_
    refine rp 2 ?_
    refine b0 (.E 0 23 (.int .i64 (IntKind.i64.wrap (((k : Nat) : Int) + 1))) <| .C 1 9 <| .nil) [(9, .int .i64 (IntKind.i64.wrap (((k : Nat) : Int) + 1))), (16, .bool (decide (((x.1 : Nat) : Int) < ((x.1 : Nat) : Int)))), (7, .slice (some ad) sp.length c), (8, .int .i64 ((sp.length : Nat) : Int)), (5, .pointer (some ⟨b29, 0, none⟩)), (14, .int .i64 ((x.1 : Nat) : Int)), (15, .int .i64 ((x.1 : Nat) : Int)), (3, v)] h49 (Kw.nil hB44) fun q76 h77 => ?_
    clear h49
    refine wpO_end ?_
    have h78 := h77.keep [(7, .slice (some ad) sp.length c), (8, .int .i64 ((sp.length : Nat) : Int)), (9, .int .i64 (((k + 1) : Nat) : Int)), (3, v)] ⟨rfl, rfl, look_int rfl (wrap_succ (by have := hn; omega)), rfl, trivial⟩
    have hm79 := h78.int (k := 9) (kd := .i64) (z := (((k + 1) : Nat) : Int)) rfl
    refine then_n ⟨⟨k + 1, v, by omega, h78, hB44.tail, by rw [clsOf_row sp k x hx, clsOf_take sp k x hx, List.length_append, List.length_replicate]; exact hx47⟩, ?_⟩
    show (((sp.length : Int)) - intAt _ 9).toNat < (((sp.length : Int)) - intAt _ 9).toNat
    rw [hm17, hm79]; omega
  have hp80 : ¬ (((k : Nat) : Int) < ((sp.length : Nat) : Int)) := of_decide_eq_false hc21
  obtain rfl : k = sp.length := by omega
  refine c_exit 0 (by kernel_rfl) ?_
  refine then_e (then_e (inB_hit ?_))
  refine then_n ?_
  refine kS ?_
  refine rp 2 ?_
  refine b0 (.C 0 24 <| .C 1 2 <| .nil) [(2, v)] h20 (Kw.nil hB15) fun q81 h82 => ?_
  clear h20
  refine wpO_end ?_
  refine then_n ?_
  refine c_ret (by kernel_rfl) ?_
  refine ret1 (t := 2) (v := v) h82 (by kernel_rfl) (by kernel_rfl) ?_
  exact ⟨v, rfl, by have := hx18; rwa [List.take_length] at this, hB15.bel⟩

end Go.Proofs.YtljegdokbifoiaaGreatDoor.Af

namespace Go.Proofs.YtljegdokbifoiaaGreatDoor.Af
open Go.RowKit
theorem clV_get (l : List Nat) (k x : Nat) (h : l[k]? = some x) : ∀ j u, ([fnV x] : List Value)[j]? = some u → (l.map fnV)[k * 1 + j]? = some u := by
  intro j u hj
  match j, hj with
  | 0, hj =>
    rw [List.getElem?_map, Nat.add_zero, Nat.mul_one, h]
    exact hj

set_option maxHeartbeats 4000000 in
set_option maxRecDepth 20000 in
theorem c68 (cl : List Nat) (A : Option Addr) (c : Nat) (sh : Int) (s : ByteArray) (w : World) (hn : cl.length ≤ 1000) (hcl : ∀ g ∈ cl, g = 119 ∨ g = 120 ∨ g = 121 ∨ g = 123) (hr : Rd w A (cl.map fnV)) : Calls Tryz.prog 104 #[.slice A cl.length c, .int .i64 sh, .string s] w (fun e w' => ∃ at' : Int, e = .returned (.tuple #[.int .i64 at', .int .i64 (pfxE cl sh s)]) ∧ Below w.heap.size w w') := by
  refine enter Tryz.func104 (by kernel_rfl) ?_ (by kernel_rfl)
  intro q0 h0
  replace h0 := h0.conv (l' := [(0, .slice A cl.length c), (1, .int .i64 sh), (2, .string s)]) rfl
  have hB := Bx.refl w
  refine kS ?_
  refine rp 2 ?_
  refine b0 (.C 0 6 <| .C 1 7 <| .nil) [(7, .int .i64 0), (6, .int .i64 0), (0, .slice A cl.length c), (1, .int .i64 sh), (2, .string s)] h0 (Kw.nil hB) fun q1 h2 => ?_
  clear h0
  refine wpO_end ?_
  refine then_n ?_
  refine kS ?_
  refine kS ?_
  refine rp 3 ?_
  refine b0 (.C 0 10 <| .E 1 11 (.int .i64 ((cl.length : Nat) : Int)) <| .C 2 12 <| .nil) [(12, .int .i64 0), (11, .int .i64 ((cl.length : Nat) : Int)), (10, .slice A cl.length c), (7, .int .i64 0), (6, .int .i64 0), (0, .slice A cl.length c), (1, .int .i64 sh), (2, .string s)] h2 (Kw.nil hB) fun q3 h4 => ?_
  clear h2
  refine wpO_end ?_
  refine then_n ?_
  refine c_block 0 (by kernel_rfl) ?_
  refine c_loop (by kernel_rfl) (fun qa qw => ∃ k : Nat, (k ≤ cl.length) ∧ Fr 46 [(10, .slice A cl.length c), (11, .int .i64 ((cl.length : Nat) : Int)), (12, .int .i64 ((k : Nat) : Int)), (0, .slice A cl.length c), (1, .int .i64 sh), (2, .string s), (6, .int .i64 0), (7, .int .i64 0)] qa ∧ Bx w [] qw ∧ (∀ (j : Nat) (g : Nat) (c : UInt8), j < k → cl[j]? = some g → s.data.toList[j]? = some c → clsB g (c.toNat : Int) = true)) (fun qa _ => (((cl.length : Int)) - intAt qa 12).toNat) ⟨0, Nat.zero_le _, h4.keep _ ⟨rfl, rfl, rfl, rfl, rfl, rfl, rfl, rfl, trivial⟩, hB, fun j _ _ hj => absurd hj (Nat.not_lt_zero _)⟩ ?_
  rintro q5 w6 ⟨k, hk9, h7, hB8, hx11⟩
  have hm10 := h7.int (k := 12) (kd := .i64) (z := ((k : Nat) : Int)) rfl
  clear h4 hB
  refine kS ?_
  refine rp 1 ?_
  refine b0 (.E 0 13 (.bool (decide (((k : Nat) : Int) < ((cl.length : Nat) : Int)))) <| .nil) [(13, .bool (decide (((k : Nat) : Int) < ((cl.length : Nat) : Int)))), (10, .slice A cl.length c), (11, .int .i64 ((cl.length : Nat) : Int)), (12, .int .i64 ((k : Nat) : Int)), (0, .slice A cl.length c), (1, .int .i64 sh), (2, .string s), (6, .int .i64 0), (7, .int .i64 0)] h7 (Kw.nil hB8) fun q12 h13 => ?_
  clear h7
  refine wpO_end ?_
  refine then_n ?_
  refine kS ?_
  refine kC 13 (decide (((k : Nat) : Int) < ((cl.length : Nat) : Int))) h13 (fun hc14 => ?_) (fun hc14 => ?_)
  ·
    have hp15 : (((k : Nat) : Int) < ((cl.length : Nat) : Int)) := of_decide_eq_true hc14
    have hlt : k < cl.length := by omega
    obtain ⟨x, hx⟩ : ∃ x, cl[k]? = some x := ⟨cl[k], List.getElem?_eq_getElem hlt⟩
    obtain ⟨ad, hA, hE0⟩ := hr.el (k * 1) [fnV x] (by simp) (clV_get cl k x hx)
    subst hA
    refine c_skip (by kernel_rfl) ?_
    refine then_n ?_
    refine kS ?_
    refine c_block 1 (by kernel_rfl) ?_
    refine kS ?_
    refine rp 5 ?_
    refine b0 (.C 0 14 <| .nil) [(14, .int .i64 ((k : Nat) : Int)), (13, .bool (decide (((k : Nat) : Int) < ((cl.length : Nat) : Int)))), (10, .slice (some ad) cl.length c), (11, .int .i64 ((cl.length : Nat) : Int)), (12, .int .i64 ((k : Nat) : Int)), (0, .slice (some ad) cl.length c), (1, .int .i64 sh), (2, .string s), (6, .int .i64 0), (7, .int .i64 0)] h13 (Kw.nil hB8) fun q16 h17 => ?_
    clear h13
    refine eE 1 15 (.indexAddr 183 (.tmp 10) (.tmp 12)) 0 (.pointer (some ((ad.add (k * 1)).add 0))) h17 (hr := r_index0 (n := cl.length) (c := c) (kd := .i64) (by kernel_rfl) (by kernel_rfl) hlt (by kernel_rfl)) fun q18 h19 => ?_
    clear h17
    refine b0 (.X 2 16 0 0 <| .C 3 8 <| .C 4 9 <| .nil) [(9, .func (.func x) #[] #[]), (8, .int .i64 ((k : Nat) : Int)), (13, .bool (decide (((k : Nat) : Int) < ((cl.length : Nat) : Int)))), (10, .slice (some ad) cl.length c), (11, .int .i64 ((cl.length : Nat) : Int)), (12, .int .i64 ((k : Nat) : Int)), (0, .slice (some ad) cl.length c), (1, .int .i64 sh), (2, .string s), (6, .int .i64 0), (7, .int .i64 0)] h19 ((Kw.nil hB8).cons (hE0.below hB8.bel)) fun q20 h21 => ?_
    clear h19
    refine wpO_end ?_
    refine then_n ?_
    refine kS ?_
    refine rp 12 ?_
    refine b0 (.C 0 17 <| .C 1 18 <| .E 2 19 (.int .i64 ((s.size : Nat) : Int)) <| .E 3 20 (.bool (decide (((k : Nat) : Int) < ((s.size : Nat) : Int)))) <| .C 4 21 <| .nil) [(21, .bool (decide (((k : Nat) : Int) < ((s.size : Nat) : Int)))), (9, .func (.func x) #[] #[]), (8, .int .i64 ((k : Nat) : Int)), (13, .bool (decide (((k : Nat) : Int) < ((cl.length : Nat) : Int)))), (10, .slice (some ad) cl.length c), (11, .int .i64 ((cl.length : Nat) : Int)), (12, .int .i64 ((k : Nat) : Int)), (0, .slice (some ad) cl.length c), (1, .int .i64 sh), (2, .string s), (6, .int .i64 0), (7, .int .i64 0)] h21 (Kw.nil hB8) fun q22 h23 => ?_
    clear h21
    refine wpO_cut [(5, false), (6, false), (7, false), (8, false), (9, false), (10, false), (11, false)] [] (fun qa qw => Fr 46 [(28, .bool ((decide (((k : Nat) : Int) < ((s.size : Nat) : Int))) && (!(clsB x (((chAt s k).toNat : Nat) : Int))))), (9, .func (.func x) #[] #[]), (8, .int .i64 ((k : Nat) : Int)), (13, .bool (decide (((k : Nat) : Int) < ((cl.length : Nat) : Int)))), (10, .slice (some ad) cl.length c), (11, .int .i64 ((cl.length : Nat) : Int)), (12, .int .i64 ((k : Nat) : Int)), (0, .slice (some ad) cl.length c), (1, .int .i64 sh), (2, .string s), (6, .int .i64 0), (7, .int .i64 0)] qa ∧ Bx w [] qw) ?_ ?_
    ·
      rcases Bool.eq_false_or_eq_true (decide (((k : Nat) : Int) < ((s.size : Nat) : Int))) with hc24 | hc24
      ·
        refine b1 21 hc24 (.C 5 22 <| .C 6 23 <| .C 7 24 <| .nil) [(24, .int .i64 ((k : Nat) : Int)), (23, .string s), (22, .func (.func x) #[] #[]), (21, .bool (decide (((k : Nat) : Int) < ((s.size : Nat) : Int)))), (9, .func (.func x) #[] #[]), (8, .int .i64 ((k : Nat) : Int)), (13, .bool (decide (((k : Nat) : Int) < ((cl.length : Nat) : Int)))), (10, .slice (some ad) cl.length c), (11, .int .i64 ((cl.length : Nat) : Int)), (12, .int .i64 ((k : Nat) : Int)), (0, .slice (some ad) cl.length c), (1, .int .i64 sh), (2, .string s), (6, .int .i64 0), (7, .int .i64 0)] h23 (Kw.nil hB8) fun q25 h26 => ?_
        clear h23
        refine eG 8 25 (.index 9 (.tmp 23) (.tmp 24)) 5 (4, true) (.int .u8 (((chAt s k).toNat : Nat) : Int)) (g1 21 hc24) h26 (hr := r_indexS (kd := .i64) (i := k) (b := (chAt s k)) (by kernel_rfl) (by kernel_rfl) (getSd hc24) (by kernel_rfl)) fun q27 h28 => ?_
        clear h26
        refine stC (i := 9) (d := 26) (op := Op.call { callee := Callee.value (Operand.tmp 22), args := #[Operand.tmp 25], argTypes := #[5] }) (ty := 4) (g := (some (4, true))) (f := x) (args := #[.int .u8 (((chAt s k).toNat : Nat) : Int)]) (w1 := w6) h28 (by kernel_rfl) (by kernel_rfl) (by kernel_rfl) (g1 21 hc24) (by rcases hcl x (List.mem_of_getElem? hx) with rfl | rfl | rfl | rfl <;> kernel_rfl) (cCls x (hcl x (List.mem_of_getElem? hx)) (((chAt s k).toNat : Nat) : Int) w6) ?_
        rintro _ w31 ⟨rfl, hb32⟩
        have hB33 := hB8.call hb32
        refine ⟨_, rfl, trivial, fun q29 h30 => ?_⟩
        clear h28 hB8 hb32
        refine b1 21 hc24 (.E 10 27 (.bool (!(clsB x (((chAt s k).toNat : Nat) : Int)))) <| .nil) [(27, .bool (!(clsB x (((chAt s k).toNat : Nat) : Int)))), (21, .bool (decide (((k : Nat) : Int) < ((s.size : Nat) : Int)))), (9, .func (.func x) #[] #[]), (8, .int .i64 ((k : Nat) : Int)), (13, .bool (decide (((k : Nat) : Int) < ((cl.length : Nat) : Int)))), (10, .slice (some ad) cl.length c), (11, .int .i64 ((cl.length : Nat) : Int)), (12, .int .i64 ((k : Nat) : Int)), (0, .slice (some ad) cl.length c), (1, .int .i64 sh), (2, .string s), (6, .int .i64 0), (7, .int .i64 0)] h30 (Kw.nil hB33) fun q34 h35 => ?_
        clear h30
        refine eE 11 28 (.pick (.tmp 21) (.tmp 27) (.const (.bool false))) 4 (.bool ((decide (((k : Nat) : Int) < ((s.size : Nat) : Int))) && (!(clsB x (((chAt s k).toNat : Nat) : Int))))) h35 (hr := r_and (c := decide (((k : Nat) : Int) < ((s.size : Nat) : Int))) (d := (!(clsB x (((chAt s k).toNat : Nat) : Int)))) (by kernel_rfl) (fun _ => by kernel_rfl)) fun q36 h37 => ?_
        clear h35
        exact ⟨h37.keep _ ⟨rfl, rfl, rfl, rfl, rfl, rfl, rfl, rfl, rfl, rfl, rfl, rfl, trivial⟩, hB33⟩
      ·
        refine b1 21 hc24 (.K 5 22 <| .K 6 23 <| .K 7 24 <| .K 8 25 <| .K 9 26 <| .K 10 27 <| .nil) [(27, undef), (21, .bool (decide (((k : Nat) : Int) < ((s.size : Nat) : Int)))), (9, .func (.func x) #[] #[]), (8, .int .i64 ((k : Nat) : Int)), (13, .bool (decide (((k : Nat) : Int) < ((cl.length : Nat) : Int)))), (10, .slice (some ad) cl.length c), (11, .int .i64 ((cl.length : Nat) : Int)), (12, .int .i64 ((k : Nat) : Int)), (0, .slice (some ad) cl.length c), (1, .int .i64 sh), (2, .string s), (6, .int .i64 0), (7, .int .i64 0)] h23 (Kw.nil hB8) fun q38 h39 => ?_
        clear h23
        refine eE 11 28 (.pick (.tmp 21) (.tmp 27) (.const (.bool false))) 4 (.bool ((decide (((k : Nat) : Int) < ((s.size : Nat) : Int))) && (!(clsB x (((chAt s k).toNat : Nat) : Int))))) h39 (hr := r_and (c := decide (((k : Nat) : Int) < ((s.size : Nat) : Int))) (d := (!(clsB x (((chAt s k).toNat : Nat) : Int)))) (by kernel_rfl) (fun e42 => Bool.noConfusion (e42.symm.trans hc24))) fun q40 h41 => ?_
        clear h39
        exact ⟨h41.keep _ ⟨rfl, rfl, rfl, rfl, rfl, rfl, rfl, rfl, rfl, rfl, rfl, rfl, trivial⟩, hB8⟩
    rintro q43 w44 ⟨h45, hB46⟩
    refine wpO_end ?_
    refine then_n ?_
    refine kC 28 ((decide (((k : Nat) : Int) < ((s.size : Nat) : Int))) && (!(clsB x (((chAt s k).toNat : Nat) : Int)))) h45 (fun hc47 => ?_) (fun hc47 => ?_)
    ·
      refine kS ?_
      refine rp 3 ?_
      refine b0 (.C 0 29 <| .C 1 6 <| .C 2 7 <| .nil) [(7, .int .i64 3), (6, .int .i64 ((k : Nat) : Int)), (28, .bool ((decide (((k : Nat) : Int) < ((s.size : Nat) : Int))) && (!(clsB x (((chAt s k).toNat : Nat) : Int))))), (9, .func (.func x) #[] #[]), (8, .int .i64 ((k : Nat) : Int)), (13, .bool (decide (((k : Nat) : Int) < ((cl.length : Nat) : Int)))), (10, .slice (some ad) cl.length c), (11, .int .i64 ((cl.length : Nat) : Int)), (12, .int .i64 ((k : Nat) : Int)), (0, .slice (some ad) cl.length c), (1, .int .i64 sh), (2, .string s)] h45 (Kw.nil hB46) fun q48 h49 => ?_
      clear h45
      refine wpO_end ?_
      refine then_n ?_
      refine c_ret (by kernel_rfl) ?_
      refine inB_r (then_r (then_r (inB_r (then_r ?_))))
      refine ret2 (t := 6) (u := 7) (v := .int .i64 ((k : Nat) : Int)) (v' := .int .i64 3) h49 (by kernel_rfl) (by kernel_rfl) (by kernel_rfl) ?_
      exact ⟨_, ret_eq (by rw [pfx_bad hx hc47]), hB46.bel⟩
    refine c_skip (by kernel_rfl) ?_
    refine inB_n ?_
    refine then_n ?_
    refine rp 2 ?_
    refine b0 (.E 0 30 (.int .i64 (IntKind.i64.wrap (((k : Nat) : Int) + 1))) <| .C 1 12 <| .nil) [(12, .int .i64 (IntKind.i64.wrap (((k : Nat) : Int) + 1))), (28, .bool ((decide (((k : Nat) : Int) < ((s.size : Nat) : Int))) && (!(clsB x (((chAt s k).toNat : Nat) : Int))))), (9, .func (.func x) #[] #[]), (8, .int .i64 ((k : Nat) : Int)), (13, .bool (decide (((k : Nat) : Int) < ((cl.length : Nat) : Int)))), (10, .slice (some ad) cl.length c), (11, .int .i64 ((cl.length : Nat) : Int)), (0, .slice (some ad) cl.length c), (1, .int .i64 sh), (2, .string s), (6, .int .i64 0), (7, .int .i64 0)] h45 (Kw.nil hB46) fun q50 h51 => ?_
    clear h45
    refine wpO_end ?_
    have h52 := h51.keep [(10, .slice (some ad) cl.length c), (11, .int .i64 ((cl.length : Nat) : Int)), (12, .int .i64 (((k + 1) : Nat) : Int)), (0, .slice (some ad) cl.length c), (1, .int .i64 sh), (2, .string s), (6, .int .i64 0), (7, .int .i64 0)] ⟨rfl, rfl, look_int rfl (wrap_succ (by have := hn; omega)), rfl, rfl, rfl, rfl, rfl, trivial⟩
    have hm53 := h52.int (k := 12) (kd := .i64) (z := (((k + 1) : Nat) : Int)) rfl
    refine then_n ⟨⟨k + 1, by omega, h52, hB46, pfx_step hx11 hx hc47⟩, ?_⟩
    show (((cl.length : Int)) - intAt _ 12).toNat < (((cl.length : Int)) - intAt _ 12).toNat
    rw [hm10, hm53]; omega
  have hp54 : ¬ (((k : Nat) : Int) < ((cl.length : Nat) : Int)) := of_decide_eq_false hc14
  refine c_exit 0 (by kernel_rfl) ?_
  refine then_e (then_e (inB_hit ?_))
  refine then_n ?_
  refine kS ?_
  refine c_block 2 (by kernel_rfl) ?_
  refine kS ?_
  refine rp 5 ?_
  refine b0 (.C 0 32 <| .E 1 33 (.int .i64 ((s.size : Nat) : Int)) <| .C 2 34 <| .E 3 35 (.bool (decide (((s.size : Nat) : Int) < sh))) <| .C 4 31 <| .nil) [(31, .bool (decide (((s.size : Nat) : Int) < sh))), (0, .slice A cl.length c), (2, .string s), (6, .int .i64 0), (7, .int .i64 0)] h13 (Kw.nil hB8) fun q55 h56 => ?_
  clear h13
  refine wpO_end ?_
  refine then_n ?_
  refine kC 31 (decide (((s.size : Nat) : Int) < sh)) h56 (fun hc57 => ?_) (fun hc57 => ?_)
  ·
    have hp58 : (((s.size : Nat) : Int) < sh) := of_decide_eq_true hc57
    refine kS ?_
    refine rp 4 ?_
    refine b0 (.C 0 36 <| .E 1 37 (.int .i64 ((s.size : Nat) : Int)) <| .C 2 6 <| .C 3 7 <| .nil) [(7, .int .i64 4), (6, .int .i64 ((s.size : Nat) : Int)), (0, .slice A cl.length c), (2, .string s)] h56 (Kw.nil hB8) fun q59 h60 => ?_
    clear h56
    refine wpO_end ?_
    refine then_n ?_
    refine c_ret (by kernel_rfl) ?_
    refine inB_r (then_r ?_)
    refine ret2 (t := 6) (u := 7) (v := .int .i64 ((s.size : Nat) : Int)) (v' := .int .i64 4) h60 (by kernel_rfl) (by kernel_rfl) (by kernel_rfl) ?_
    exact ⟨_, ret_eq (by rw [pfx_ok hx11 (of_decide_eq_false hc14), hc57]; rfl), hB8.bel⟩
  have hp61 : ¬ (((s.size : Nat) : Int) < sh) := of_decide_eq_false hc57
  refine kS ?_
  refine rp 6 ?_
  refine b0 (.C 0 39 <| .E 1 40 (.int .i64 ((s.size : Nat) : Int)) <| .C 2 41 <| .E 3 42 (.int .i64 ((cl.length : Nat) : Int)) <| .E 4 43 (.bool (decide (((cl.length : Nat) : Int) < ((s.size : Nat) : Int)))) <| .C 5 38 <| .nil) [(38, .bool (decide (((cl.length : Nat) : Int) < ((s.size : Nat) : Int)))), (0, .slice A cl.length c), (6, .int .i64 0), (7, .int .i64 0)] h56 (Kw.nil hB8) fun q62 h63 => ?_
  clear h56
  refine wpO_end ?_
  refine then_n ?_
  refine kC 38 (decide (((cl.length : Nat) : Int) < ((s.size : Nat) : Int))) h63 (fun hc64 => ?_) (fun hc64 => ?_)
  ·
    have hp65 : (((cl.length : Nat) : Int) < ((s.size : Nat) : Int)) := of_decide_eq_true hc64
    refine kS ?_
    refine rp 4 ?_
    refine b0 (.C 0 44 <| .E 1 45 (.int .i64 ((cl.length : Nat) : Int)) <| .C 2 6 <| .C 3 7 <| .nil) [(7, .int .i64 5), (6, .int .i64 ((cl.length : Nat) : Int))] h63 (Kw.nil hB8) fun q66 h67 => ?_
    clear h63
    refine wpO_end ?_
    refine then_n ?_
    refine c_ret (by kernel_rfl) ?_
    refine inB_r (then_r ?_)
    refine ret2 (t := 6) (u := 7) (v := .int .i64 ((cl.length : Nat) : Int)) (v' := .int .i64 5) h67 (by kernel_rfl) (by kernel_rfl) (by kernel_rfl) ?_
    exact ⟨_, ret_eq (by rw [pfx_ok hx11 (of_decide_eq_false hc14), hc57, hc64]; rfl), hB8.bel⟩
  have hp68 : ¬ (((cl.length : Nat) : Int) < ((s.size : Nat) : Int)) := of_decide_eq_false hc64
  refine c_skip (by kernel_rfl) ?_
  refine inB_n ?_
  refine then_n ?_
  refine kS ?_
  refine rp 2 ?_
  refine b0 (.C 0 6 <| .C 1 7 <| .nil) [(7, .int .i64 0), (6, .int .i64 0)] h63 (Kw.nil hB8) fun q69 h70 => ?_
  clear h63
  refine wpO_end ?_
  refine then_n ?_
  refine c_ret (by kernel_rfl) ?_
  refine ret2 (t := 6) (u := 7) (v := .int .i64 0) (v' := .int .i64 0) h70 (by kernel_rfl) (by kernel_rfl) (by kernel_rfl) ?_
  exact ⟨_, ret_eq (by rw [pfx_ok hx11 (of_decide_eq_false hc14), hc57, hc64]; rfl), hB8.bel⟩

end Go.Proofs.YtljegdokbifoiaaGreatDoor.Af

namespace Go.Proofs.YtljegdokbifoiaaGreatDoor.Af
open Go.RowKit
theorem dec_size (v : Nat) (h : v < 100) : (⟨(Lib.decDigits v).toArray⟩ : ByteArray).size ≤ 2 := by
  show (Lib.decDigits v).toArray.size ≤ 2
  rw [List.size_toArray]
  rcases Nat.lt_or_ge v 10 with h1 | h1
  · rw [decDigits_one v h1]; simp
  · rw [decDigits_two v h1 h]; simp
theorem isb_next {B b k : Nat} {l : List UInt8} {c : UInt8} {bs : List Value} {w : World} (hst : expL (l.take (k + 1)) = expL (l.take k) ++ expC c) (hb : Lib.byteCells (expC c) = bs)
    (h : Lib.IsBuilder 230 5 B b (Lib.byteCells (expL (l.take k)) ++ bs) w) : Lib.IsBuilder 230 5 B b (Lib.byteCells (expL (l.take (k + 1)))) w := by
  rw [hst]
  unfold Lib.byteCells at hb h ⊢
  rw [List.map_append, hb]
  exact h

set_option maxHeartbeats 4000000 in
set_option maxRecDepth 20000 in
theorem c100 (s : ByteArray) (w : World) (hn : s.size ≤ 1000) (hC : ∀ c ∈ s.data.toList, okC c = true) : Calls Tryz.prog 148 #[.string s] w (fun e w' => e = .returned (.string ⟨(expL s.data.toList).toArray⟩) ∧ Below w.heap.size w w') := by
  refine enter Tryz.func148 (by kernel_rfl) ?_ (by kernel_rfl)
  intro q0 h0
  replace h0 := h0.conv (l' := [(0, .string s)]) rfl
  have hB := Bx.refl w
  refine kS ?_
  refine rp 1 ?_
  refine b0 (.C 0 2 <| .nil) [(2, .string (⟨#[]⟩ : ByteArray)), (0, .string s)] h0 (Kw.nil hB) fun q1 h2 => ?_
  clear h0
  refine wpO_end ?_
  refine then_n ?_
  refine kS ?_
  refine rp 1 ?_
  refine sA 0 3 (fun b => .pointer (some ⟨b, 0, none⟩)) (.cells #[.pointer none, .slice none 0 0] 230 (0, 0)) h2 gok_none hB (fun _ _ hq => trivial) (fun b5 w6 hB7 hN q3 h4 => ?_)
  clear h2 hB hN
  have hi8 := isB_new (hB7.at 0 rfl) (hB7.ge 0 _ rfl)
  have hB9 := Bx.step0 (Bx.refl w) hB7.bel
  clear hB7
  refine wpO_end ?_
  refine then_n ?_
  refine kS ?_
  refine kS ?_
  refine rp 3 ?_
  refine b0 (.C 0 5 <| .E 1 6 (.int .i64 ((s.size : Nat) : Int)) <| .C 2 7 <| .nil) [(7, .int .i64 0), (6, .int .i64 ((s.size : Nat) : Int)), (3, .pointer (some ⟨b5, 0, none⟩)), (2, .string (⟨#[]⟩ : ByteArray)), (0, .string s)] h4 (Kw.nil hB9) fun q10 h11 => ?_
  clear h4
  refine wpO_end ?_
  refine then_n ?_
  refine c_block 0 (by kernel_rfl) ?_
  refine c_loop (by kernel_rfl) (fun qa qw => ∃ k : Nat, (k ≤ s.size) ∧ Fr 28 [(3, .pointer (some ⟨b5, 0, none⟩)), (6, .int .i64 ((s.size : Nat) : Int)), (7, .int .i64 ((k : Nat) : Int)), (0, .string s)] qa ∧ Bx w [] qw ∧ (Lib.IsBuilder 230 5 w.heap.size b5 (Lib.byteCells (expL (s.data.toList.take k))) qw)) (fun qa _ => (((s.size : Int)) - intAt qa 7).toNat) ⟨0, Nat.zero_le _, h11.keep _ ⟨rfl, rfl, rfl, rfl, trivial⟩, hB9, by rw [List.take_zero]; exact hi8⟩ ?_
  rintro q12 w13 ⟨k, hk16, h14, hB15, hx18⟩
  have hm17 := h14.int (k := 7) (kd := .i64) (z := ((k : Nat) : Int)) rfl
  clear h11 hB9
  refine kS ?_
  refine rp 1 ?_
  refine b0 (.E 0 8 (.bool (decide (((k : Nat) : Int) < ((s.size : Nat) : Int)))) <| .nil) [(8, .bool (decide (((k : Nat) : Int) < ((s.size : Nat) : Int)))), (3, .pointer (some ⟨b5, 0, none⟩)), (6, .int .i64 ((s.size : Nat) : Int)), (7, .int .i64 ((k : Nat) : Int)), (0, .string s)] h14 (Kw.nil hB15) fun q19 h20 => ?_
  clear h14
  refine wpO_end ?_
  refine then_n ?_
  refine kS ?_
  refine kC 8 (decide (((k : Nat) : Int) < ((s.size : Nat) : Int))) h20 (fun hc21 => ?_) (fun hc21 => ?_)
  ·
    have hp22 : (((k : Nat) : Int) < ((s.size : Nat) : Int)) := of_decide_eq_true hc21
    have hlt : (k : Int) < (s.size : Int) := by omega
    have hg := getL hlt
    have hok := hC _ (List.mem_of_getElem? hg)
    have hle := expL_len (s.data.toList.take k)
    rw [List.length_take] at hle
    have hst := expL_take _ _ _ hg
    refine c_skip (by kernel_rfl) ?_
    refine then_n ?_
    refine kS ?_
    refine c_block 1 (by kernel_rfl) ?_
    refine kS ?_
    refine rp 2 ?_
    refine b0 (.C 0 9 <| .C 1 4 <| .nil) [(4, .int .i64 ((k : Nat) : Int)), (8, .bool (decide (((k : Nat) : Int) < ((s.size : Nat) : Int)))), (3, .pointer (some ⟨b5, 0, none⟩)), (6, .int .i64 ((s.size : Nat) : Int)), (7, .int .i64 ((k : Nat) : Int)), (0, .string s)] h20 (Kw.nil hB15) fun q23 h24 => ?_
    clear h20
    refine wpO_end ?_
    refine then_n ?_
    refine kS ?_
    refine rp 4 ?_
    refine b0 (.C 0 10 <| .C 1 11 <| .nil) [(11, .int .i64 ((k : Nat) : Int)), (10, .string s), (4, .int .i64 ((k : Nat) : Int)), (8, .bool (decide (((k : Nat) : Int) < ((s.size : Nat) : Int)))), (3, .pointer (some ⟨b5, 0, none⟩)), (6, .int .i64 ((s.size : Nat) : Int)), (7, .int .i64 ((k : Nat) : Int)), (0, .string s)] h24 (Kw.nil hB15) fun q25 h26 => ?_
    clear h24
    refine eE 2 12 (.index 9 (.tmp 10) (.tmp 11)) 5 (.int .u8 (((chAt s k).toNat : Nat) : Int)) h26 (hr := r_indexS (kd := .i64) (i := k) (b := (chAt s k)) (by kernel_rfl) (by kernel_rfl) (getS hlt) (by kernel_rfl)) fun q27 h28 => ?_
    clear h26
    refine sC 3 13 h28 gok_none (c88 (((chAt s k).toNat : Nat) : Int) w13) ?_
    rintro _ w31 ⟨rfl, hb32⟩
    have hi34 := isB_below hx18 hb32
    have hB33 := hB15.call hb32
    refine ⟨_, rfl, trivial, fun q29 h30 => ?_⟩
    clear h28 hB15 hb32
    refine wpO_end ?_
    have h35 := h30.keep [(13, .bool (digitB (((chAt s k).toNat : Nat) : Int))), (4, .int .i64 ((k : Nat) : Int)), (8, .bool (decide (((k : Nat) : Int) < ((s.size : Nat) : Int)))), (3, .pointer (some ⟨b5, 0, none⟩)), (6, .int .i64 ((s.size : Nat) : Int)), (7, .int .i64 ((k : Nat) : Int)), (0, .string s)] ⟨rfl, rfl, rfl, rfl, rfl, rfl, rfl, trivial⟩
    clear h30
    refine then_n ?_
    refine kC 13 (digitB (((chAt s k).toNat : Nat) : Int)) h35 (fun hc36 => ?_) (fun hc36 => ?_)
    ·
      have hcc := expC_digit _ hc36
      refine rp 4 ?_
      refine b0 (.C 0 14 <| .C 1 15 <| .nil) [(15, .int .i64 ((k : Nat) : Int)), (14, .string s), (13, .bool (digitB (((chAt s k).toNat : Nat) : Int))), (4, .int .i64 ((k : Nat) : Int)), (8, .bool (decide (((k : Nat) : Int) < ((s.size : Nat) : Int)))), (3, .pointer (some ⟨b5, 0, none⟩)), (6, .int .i64 ((s.size : Nat) : Int)), (7, .int .i64 ((k : Nat) : Int)), (0, .string s)] h35 (Kw.nil hB33) fun q37 h38 => ?_
      clear h35
      refine eE 2 16 (.index 9 (.tmp 14) (.tmp 15)) 5 (.int .u8 (((chAt s k).toNat : Nat) : Int)) h38 (hr := r_indexS (kd := .i64) (i := k) (b := (chAt s k)) (by kernel_rfl) (by kernel_rfl) (getS hlt) (by kernel_rfl)) fun q39 h40 => ?_
      clear h38
      refine sC 3 17 h40 gok_none (c103 w.heap.size b5 (Lib.byteCells (expL (s.data.toList.take k))) (((chAt s k).toNat : Nat) : Int) w31 hi34 (by rw [Lib.byteCells_length]; omega) hB33.bel.size) ?_
      rintro _ w43 ⟨rfl, hi46, hb44⟩
      have hB45 := Bx.step0 (Bx.refl w) (hB33.bel.trans hb44)
      refine ⟨_, rfl, trivial, fun q41 h42 => ?_⟩
      clear h40 hB33 hb44
      refine wpO_end ?_
      have h47 := h42.keep [(13, .bool (digitB (((chAt s k).toNat : Nat) : Int))), (4, .int .i64 ((k : Nat) : Int)), (8, .bool (decide (((k : Nat) : Int) < ((s.size : Nat) : Int)))), (3, .pointer (some ⟨b5, 0, none⟩)), (6, .int .i64 ((s.size : Nat) : Int)), (7, .int .i64 ((k : Nat) : Int)), (0, .string s)] ⟨rfl, rfl, rfl, rfl, rfl, rfl, rfl, trivial⟩
      clear h42
      refine inB_n ?_
      refine then_n ?_
      refine rp 2 ?_
      refine b0 (.E 0 26 (.int .i64 (IntKind.i64.wrap (((k : Nat) : Int) + 1))) <| .C 1 7 <| .nil) [(7, .int .i64 (IntKind.i64.wrap (((k : Nat) : Int) + 1))), (13, .bool (digitB (((chAt s k).toNat : Nat) : Int))), (4, .int .i64 ((k : Nat) : Int)), (8, .bool (decide (((k : Nat) : Int) < ((s.size : Nat) : Int)))), (3, .pointer (some ⟨b5, 0, none⟩)), (6, .int .i64 ((s.size : Nat) : Int)), (0, .string s)] h47 (Kw.nil hB45) fun q48 h49 => ?_
      clear h47
      refine wpO_end ?_
      have h50 := h49.keep [(3, .pointer (some ⟨b5, 0, none⟩)), (6, .int .i64 ((s.size : Nat) : Int)), (7, .int .i64 (((k + 1) : Nat) : Int)), (0, .string s)] ⟨rfl, rfl, look_int rfl (wrap_succ (by have := hn; omega)), rfl, trivial⟩
      have hm51 := h50.int (k := 7) (kd := .i64) (z := (((k + 1) : Nat) : Int)) rfl
      refine then_n ⟨⟨k + 1, by omega, h50, hB45, isb_next hst (by rw [hcc]; rfl) hi46⟩, ?_⟩
      show (((s.size : Int)) - intAt _ 7).toNat < (((s.size : Int)) - intAt _ 7).toNat
      rw [hm17, hm51]; omega
    have hsm := expC_letter _ hok hc36
    refine rp 8 ?_
    refine b0 (.C 0 18 <| .C 1 19 <| .nil) [(19, .int .i64 ((k : Nat) : Int)), (18, .string s), (13, .bool (digitB (((chAt s k).toNat : Nat) : Int))), (4, .int .i64 ((k : Nat) : Int)), (8, .bool (decide (((k : Nat) : Int) < ((s.size : Nat) : Int)))), (3, .pointer (some ⟨b5, 0, none⟩)), (6, .int .i64 ((s.size : Nat) : Int)), (7, .int .i64 ((k : Nat) : Int)), (0, .string s)] h35 (Kw.nil hB33) fun q52 h53 => ?_
    clear h35
    refine eE 2 20 (.index 9 (.tmp 18) (.tmp 19)) 5 (.int .u8 (((chAt s k).toNat : Nat) : Int)) h53 (hr := r_indexS (kd := .i64) (i := k) (b := (chAt s k)) (by kernel_rfl) (by kernel_rfl) (getS hlt) (by kernel_rfl)) fun q54 h55 => ?_
    clear h53
    refine b0 (.E 3 21 (.int .u8 (IntKind.u8.wrap ((((chAt s k).toNat : Nat) : Int) - 65))) <| .E 4 22 (.int .i64 (IntKind.i64.wrap (IntKind.u8.wrap ((((chAt s k).toNat : Nat) : Int) - 65)))) <| .nil) [(22, .int .i64 (IntKind.i64.wrap (IntKind.u8.wrap ((((chAt s k).toNat : Nat) : Int) - 65)))), (13, .bool (digitB (((chAt s k).toNat : Nat) : Int))), (4, .int .i64 ((k : Nat) : Int)), (8, .bool (decide (((k : Nat) : Int) < ((s.size : Nat) : Int)))), (3, .pointer (some ⟨b5, 0, none⟩)), (6, .int .i64 ((s.size : Nat) : Int)), (7, .int .i64 ((k : Nat) : Int)), (0, .string s)] h55 (Kw.nil hB33) fun q56 h57 => ?_
    clear h55
    refine eE 5 23 (.binOp .add 3 (.tmp 22) (.const (.int .i64 10)) 3) 3 (.int .i64 (IntKind.i64.wrap ((IntKind.i64.wrap (IntKind.u8.wrap ((((chAt s k).toNat : Nat) : Int) - 65))) + 10))) h57 fun q58 h59 => ?_
    clear h57
    have h60 := h59.keep [(23, .int .i64 (((chAt s k).toNat - 55 : Nat) : Int)), (22, .int .i64 (IntKind.i64.wrap (IntKind.u8.wrap ((((chAt s k).toNat : Nat) : Int) - 65)))), (13, .bool (digitB (((chAt s k).toNat : Nat) : Int))), (4, .int .i64 ((k : Nat) : Int)), (8, .bool (decide (((k : Nat) : Int) < ((s.size : Nat) : Int)))), (3, .pointer (some ⟨b5, 0, none⟩)), (6, .int .i64 ((s.size : Nat) : Int)), (7, .int .i64 ((k : Nat) : Int)), (0, .string s)] ⟨look_int rfl (up_val _ hsm.2.2.1 hsm.2.2.2), rfl, rfl, rfl, rfl, rfl, rfl, rfl, rfl, trivial⟩
    clear h59
    refine sC 6 24 h60 gok_none (c101 ((chAt s k).toNat - 55) hsm.2.1 w31) ?_
    rintro _ w63 ⟨rfl, hb64⟩
    have hi66 := isB_below hi34 hb64
    have hB65 := hB33.call hb64
    refine ⟨_, rfl, trivial, fun q61 h62 => ?_⟩
    clear h60 hB33 hb64
    refine sC 7 25 h62 gok_none (c104 w.heap.size b5 (Lib.byteCells (expL (s.data.toList.take k))) (⟨(Lib.decDigits ((chAt s k).toNat - 55)).toArray⟩ : ByteArray) w63 hi66 (by rw [Lib.byteCells_length]; have := dec_size ((chAt s k).toNat - 55) hsm.2.1; omega) hB65.bel.size) ?_
    rintro _ w69 ⟨rfl, hi72, hb70⟩
    have hB71 := Bx.step0 (Bx.refl w) (hB65.bel.trans hb70)
    refine ⟨_, rfl, trivial, fun q67 h68 => ?_⟩
    clear h62 hB65 hb70
    refine wpO_end ?_
    have h73 := h68.keep [(13, .bool (digitB (((chAt s k).toNat : Nat) : Int))), (4, .int .i64 ((k : Nat) : Int)), (8, .bool (decide (((k : Nat) : Int) < ((s.size : Nat) : Int)))), (3, .pointer (some ⟨b5, 0, none⟩)), (6, .int .i64 ((s.size : Nat) : Int)), (7, .int .i64 ((k : Nat) : Int)), (0, .string s)] ⟨rfl, rfl, rfl, rfl, rfl, rfl, rfl, trivial⟩
    clear h68
    refine inB_n ?_
    refine then_n ?_
    refine rp 2 ?_
    refine b0 (.E 0 26 (.int .i64 (IntKind.i64.wrap (((k : Nat) : Int) + 1))) <| .C 1 7 <| .nil) [(7, .int .i64 (IntKind.i64.wrap (((k : Nat) : Int) + 1))), (13, .bool (digitB (((chAt s k).toNat : Nat) : Int))), (4, .int .i64 ((k : Nat) : Int)), (8, .bool (decide (((k : Nat) : Int) < ((s.size : Nat) : Int)))), (3, .pointer (some ⟨b5, 0, none⟩)), (6, .int .i64 ((s.size : Nat) : Int)), (0, .string s)] h73 (Kw.nil hB71) fun q74 h75 => ?_
    clear h73
    refine wpO_end ?_
    have h76 := h75.keep [(3, .pointer (some ⟨b5, 0, none⟩)), (6, .int .i64 ((s.size : Nat) : Int)), (7, .int .i64 (((k + 1) : Nat) : Int)), (0, .string s)] ⟨rfl, rfl, look_int rfl (wrap_succ (by have := hn; omega)), rfl, trivial⟩
    have hm77 := h76.int (k := 7) (kd := .i64) (z := (((k + 1) : Nat) : Int)) rfl
    refine then_n ⟨⟨k + 1, by omega, h76, hB71, isb_next hst (by rw [← hsm.1]; rfl) hi72⟩, ?_⟩
    show (((s.size : Int)) - intAt _ 7).toNat < (((s.size : Int)) - intAt _ 7).toNat
    rw [hm17, hm77]; omega
  have hp78 : ¬ (((k : Nat) : Int) < ((s.size : Nat) : Int)) := of_decide_eq_false hc21
  have hk_end : s.size ≤ k := by omega
  refine c_exit 0 (by kernel_rfl) ?_
  refine then_e (then_e (inB_hit ?_))
  refine then_n ?_
  refine kS ?_
  refine rp 2 ?_
  refine sC 0 27 h20 gok_none (Tryz.Builder_String_any w.heap.size b5 (expL s.data.toList) w13 (by have := hx18; rwa [List.take_of_length_le (by have := hk_end; have e : s.data.toList.length = s.size := Array.length_toList; omega)] at this) hB15.bel.size) ?_
  rintro _ w81 ⟨rfl, hb82⟩
  have hB83 := Bx.step0 (Bx.refl w) (hB15.bel.trans hb82)
  refine ⟨_, rfl, trivial, fun q79 h80 => ?_⟩
  clear h20 hB15 hb82
  refine b0 (.C 1 2 <| .nil) [(2, .string (⟨(expL s.data.toList).toArray⟩ : ByteArray))] h80 (Kw.nil hB83) fun q84 h85 => ?_
  clear h80
  refine wpO_end ?_
  refine then_n ?_
  refine c_ret (by kernel_rfl) ?_
  refine ret1 (t := 2) (v := .string (⟨(expL s.data.toList).toArray⟩ : ByteArray)) h85 (by kernel_rfl) (by kernel_rfl) ?_
  exact ⟨rfl, hB83.bel⟩

theorem str_at {l : List UInt8} {j : Nat} {b : UInt8} (h : l[j]? = some b) : (⟨l.toArray⟩ : ByteArray)[j]? = some b := by
  obtain ⟨hj, he⟩ := List.getElem?_eq_some_iff.1 h
  have h' : j < (⟨l.toArray⟩ : ByteArray).size := by show j < l.toArray.size; simpa using hj
  rw [getElem?_pos _ j h']
  show some (l.toArray[j]) = some b
  simp [he]

set_option maxHeartbeats 4000000 in
set_option maxRecDepth 20000 in
theorem c89 (s : ByteArray) (w : World) (hn : s.size ≤ 1000) (hC : ∀ c ∈ s.data.toList, okC c = true) : Calls Tryz.prog 122 #[.string s] w (fun e w' => e = .returned (.string ⟨#[UInt8.ofNat (48 + luhnD s.data.toList)]⟩) ∧ Below w.heap.size w w') := by
  have hlen := digs_len s.data.toList hC
  have hxl := expL_len s.data.toList
  rw [show s.data.toList.length = s.size from Array.length_toList] at hxl
  refine enter Tryz.func122 (by kernel_rfl) ?_ (by kernel_rfl)
  intro q0 h0
  replace h0 := h0.conv (l' := [(0, .string s)]) rfl
  have hB := Bx.refl w
  refine kS ?_
  refine rp 1 ?_
  refine b0 (.C 0 2 <| .nil) [(2, .string (⟨#[]⟩ : ByteArray)), (0, .string s)] h0 (Kw.nil hB) fun q1 h2 => ?_
  clear h0
  refine wpO_end ?_
  refine then_n ?_
  refine kS ?_
  refine rp 3 ?_
  refine b0 (.C 0 7 <| .nil) [(7, .string s), (2, .string (⟨#[]⟩ : ByteArray))] h2 (Kw.nil hB) fun q3 h4 => ?_
  clear h2
  refine sC 1 8 h4 gok_none (c100 s w hn hC) ?_
  rintro _ w7 ⟨rfl, hb8⟩
  have hB9 := hB.call hb8
  refine ⟨_, rfl, trivial, fun q5 h6 => ?_⟩
  clear h4 hB hb8
  refine b0 (.C 2 3 <| .nil) [(3, .string (⟨(expL s.data.toList).toArray⟩ : ByteArray)), (2, .string (⟨#[]⟩ : ByteArray))] h6 (Kw.nil hB9) fun q10 h11 => ?_
  clear h6
  refine wpO_end ?_
  refine then_n ?_
  refine kS ?_
  refine rp 1 ?_
  refine b0 (.C 0 4 <| .nil) [(4, .int .i64 0), (3, .string (⟨(expL s.data.toList).toArray⟩ : ByteArray)), (2, .string (⟨#[]⟩ : ByteArray))] h11 (Kw.nil hB9) fun q12 h13 => ?_
  clear h11
  refine wpO_end ?_
  refine then_n ?_
  refine kS ?_
  refine kS ?_
  refine rp 3 ?_
  refine b0 (.C 0 9 <| .nil) [(9, .string (⟨(expL s.data.toList).toArray⟩ : ByteArray)), (4, .int .i64 0), (3, .string (⟨(expL s.data.toList).toArray⟩ : ByteArray)), (2, .string (⟨#[]⟩ : ByteArray))] h13 (Kw.nil hB9) fun q14 h15 => ?_
  clear h13
  refine eE 1 10 (.call { callee := .builtin .len, args := #[.tmp 9], argTypes := #[9] }) 3 (.int .i64 (((⟨(expL s.data.toList).toArray⟩ : ByteArray).size : Nat) : Int)) h15 fun q16 h17 => ?_
  clear h15
  have h18 := h17.keep [(10, .int .i64 (((digs s.data.toList).length : Nat) : Int)), (9, .string (⟨(expL s.data.toList).toArray⟩ : ByteArray)), (4, .int .i64 0), (3, .string (⟨(expL s.data.toList).toArray⟩ : ByteArray)), (2, .string (⟨#[]⟩ : ByteArray))] ⟨look_int rfl (by rw [hlen]; rfl), rfl, rfl, rfl, rfl, trivial⟩
  clear h17
  refine b0 (.C 2 11 <| .nil) [(11, .int .i64 0), (10, .int .i64 (((digs s.data.toList).length : Nat) : Int)), (4, .int .i64 0), (3, .string (⟨(expL s.data.toList).toArray⟩ : ByteArray)), (2, .string (⟨#[]⟩ : ByteArray))] h18 (Kw.nil hB9) fun q19 h20 => ?_
  clear h18
  refine wpO_end ?_
  refine then_n ?_
  refine c_block 0 (by kernel_rfl) ?_
  refine c_loop (by kernel_rfl) (fun qa qw => ∃ k : Nat, (k ≤ (digs s.data.toList).length) ∧ Fr 41 [(3, .string (⟨(expL s.data.toList).toArray⟩ : ByteArray)), (10, .int .i64 (((digs s.data.toList).length : Nat) : Int)), (11, .int .i64 ((k : Nat) : Int)), (4, .int .i64 ((lSum (digs s.data.toList) k : Nat) : Int))] qa ∧ Bx w [] qw) (fun qa _ => ((((digs s.data.toList).length : Int)) - intAt qa 11).toNat) ⟨0, Nat.zero_le _, h20.keep _ ⟨rfl, rfl, rfl, rfl, trivial⟩, hB9⟩ ?_
  rintro q21 w22 ⟨k, hk25, h23, hB24⟩
  have hm26 := h23.int (k := 11) (kd := .i64) (z := ((k : Nat) : Int)) rfl
  clear h20 hB9
  have hS := lSum_le (digs s.data.toList) (digs_lt _ hC) k
  refine kS ?_
  refine rp 1 ?_
  refine b0 (.E 0 12 (.bool (decide (((k : Nat) : Int) < (((digs s.data.toList).length : Nat) : Int)))) <| .nil) [(12, .bool (decide (((k : Nat) : Int) < (((digs s.data.toList).length : Nat) : Int)))), (3, .string (⟨(expL s.data.toList).toArray⟩ : ByteArray)), (10, .int .i64 (((digs s.data.toList).length : Nat) : Int)), (11, .int .i64 ((k : Nat) : Int)), (4, .int .i64 ((lSum (digs s.data.toList) k : Nat) : Int))] h23 (Kw.nil hB24) fun q27 h28 => ?_
  clear h23
  refine wpO_end ?_
  refine then_n ?_
  refine kS ?_
  refine kC 12 (decide (((k : Nat) : Int) < (((digs s.data.toList).length : Nat) : Int))) h28 (fun hc29 => ?_) (fun hc29 => ?_)
  ·
    have hp30 : (((k : Nat) : Int) < (((digs s.data.toList).length : Nat) : Int)) := of_decide_eq_true hc29
    have hlt : k < (digs s.data.toList).length := by omega
    obtain ⟨b, hb1, hd, hb2⟩ := exp_at s.data.toList hC ((digs s.data.toList).length - 1 - k) (by rw [← hlen]; omega)
    refine c_skip (by kernel_rfl) ?_
    refine then_n ?_
    refine kS ?_
    refine c_block 1 (by kernel_rfl) ?_
    refine kS ?_
    refine rp 2 ?_
    refine b0 (.C 0 13 <| .C 1 5 <| .nil) [(5, .int .i64 ((k : Nat) : Int)), (12, .bool (decide (((k : Nat) : Int) < (((digs s.data.toList).length : Nat) : Int)))), (3, .string (⟨(expL s.data.toList).toArray⟩ : ByteArray)), (10, .int .i64 (((digs s.data.toList).length : Nat) : Int)), (11, .int .i64 ((k : Nat) : Int)), (4, .int .i64 ((lSum (digs s.data.toList) k : Nat) : Int))] h28 (Kw.nil hB24) fun q31 h32 => ?_
    clear h28
    refine wpO_end ?_
    refine then_n ?_
    refine kS ?_
    refine rp 10 ?_
    refine b0 (.C 0 14 <| .C 1 15 <| .nil) [(15, .string (⟨(expL s.data.toList).toArray⟩ : ByteArray)), (14, .string (⟨(expL s.data.toList).toArray⟩ : ByteArray)), (5, .int .i64 ((k : Nat) : Int)), (12, .bool (decide (((k : Nat) : Int) < (((digs s.data.toList).length : Nat) : Int)))), (3, .string (⟨(expL s.data.toList).toArray⟩ : ByteArray)), (10, .int .i64 (((digs s.data.toList).length : Nat) : Int)), (11, .int .i64 ((k : Nat) : Int)), (4, .int .i64 ((lSum (digs s.data.toList) k : Nat) : Int))] h32 (Kw.nil hB24) fun q33 h34 => ?_
    clear h32
    refine eE 2 16 (.call { callee := .builtin .len, args := #[.tmp 15], argTypes := #[9] }) 3 (.int .i64 (((⟨(expL s.data.toList).toArray⟩ : ByteArray).size : Nat) : Int)) h34 fun q35 h36 => ?_
    clear h34
    have h37 := h36.keep [(16, .int .i64 (((digs s.data.toList).length : Nat) : Int)), (15, .string (⟨(expL s.data.toList).toArray⟩ : ByteArray)), (14, .string (⟨(expL s.data.toList).toArray⟩ : ByteArray)), (5, .int .i64 ((k : Nat) : Int)), (12, .bool (decide (((k : Nat) : Int) < (((digs s.data.toList).length : Nat) : Int)))), (3, .string (⟨(expL s.data.toList).toArray⟩ : ByteArray)), (10, .int .i64 (((digs s.data.toList).length : Nat) : Int)), (11, .int .i64 ((k : Nat) : Int)), (4, .int .i64 ((lSum (digs s.data.toList) k : Nat) : Int))] ⟨look_int rfl (by rw [hlen]; rfl), rfl, rfl, rfl, rfl, rfl, rfl, rfl, rfl, trivial⟩
    clear h36
    refine b0 (.E 3 17 (.int .i64 (IntKind.i64.wrap ((((digs s.data.toList).length : Nat) : Int) - 1))) <| .C 4 18 <| .nil) [(18, .int .i64 ((k : Nat) : Int)), (17, .int .i64 (IntKind.i64.wrap ((((digs s.data.toList).length : Nat) : Int) - 1))), (14, .string (⟨(expL s.data.toList).toArray⟩ : ByteArray)), (5, .int .i64 ((k : Nat) : Int)), (12, .bool (decide (((k : Nat) : Int) < (((digs s.data.toList).length : Nat) : Int)))), (3, .string (⟨(expL s.data.toList).toArray⟩ : ByteArray)), (10, .int .i64 (((digs s.data.toList).length : Nat) : Int)), (11, .int .i64 ((k : Nat) : Int)), (4, .int .i64 ((lSum (digs s.data.toList) k : Nat) : Int))] h37 (Kw.nil hB24) fun q38 h39 => ?_
    clear h37
    refine eE 5 19 (.binOp .sub 3 (.tmp 17) (.tmp 18) 3) 3 (.int .i64 (IntKind.i64.wrap ((IntKind.i64.wrap ((((digs s.data.toList).length : Nat) : Int) - 1)) - ((k : Nat) : Int)))) h39 fun q40 h41 => ?_
    clear h39
    have h42 := h41.keep [(19, .int .i64 ((((digs s.data.toList).length - 1 - k) : Nat) : Int)), (18, .int .i64 ((k : Nat) : Int)), (17, .int .i64 (IntKind.i64.wrap ((((digs s.data.toList).length : Nat) : Int) - 1))), (14, .string (⟨(expL s.data.toList).toArray⟩ : ByteArray)), (5, .int .i64 ((k : Nat) : Int)), (12, .bool (decide (((k : Nat) : Int) < (((digs s.data.toList).length : Nat) : Int)))), (3, .string (⟨(expL s.data.toList).toArray⟩ : ByteArray)), (10, .int .i64 (((digs s.data.toList).length : Nat) : Int)), (11, .int .i64 ((k : Nat) : Int)), (4, .int .i64 ((lSum (digs s.data.toList) k : Nat) : Int))] ⟨look_int rfl (by rw [wrap_i64 (z := (((digs s.data.toList).length : Nat) : Int) - 1) (by omega) (by omega), wrap_i64 (by omega) (by omega)]; omega), rfl, rfl, rfl, rfl, rfl, rfl, rfl, rfl, rfl, trivial⟩
    clear h41
    refine eE 6 20 (.index 9 (.tmp 14) (.tmp 19)) 5 (.int .u8 ((b.toNat : Nat) : Int)) h42 (hr := r_indexS (kd := .i64) (i := ((digs s.data.toList).length - 1 - k)) (b := b) (by kernel_rfl) (by kernel_rfl) (str_at hb1) (by kernel_rfl)) fun q43 h44 => ?_
    clear h42
    refine b0 (.E 7 21 (.int .u8 (IntKind.u8.wrap (((b.toNat : Nat) : Int) - 48))) <| .nil) [(21, .int .u8 (IntKind.u8.wrap (((b.toNat : Nat) : Int) - 48))), (5, .int .i64 ((k : Nat) : Int)), (12, .bool (decide (((k : Nat) : Int) < (((digs s.data.toList).length : Nat) : Int)))), (3, .string (⟨(expL s.data.toList).toArray⟩ : ByteArray)), (10, .int .i64 (((digs s.data.toList).length : Nat) : Int)), (11, .int .i64 ((k : Nat) : Int)), (4, .int .i64 ((lSum (digs s.data.toList) k : Nat) : Int))] h44 (Kw.nil hB24) fun q45 h46 => ?_
    clear h44
    refine eE 8 22 (.convert 5 3 (.tmp 21)) 3 (.int .i64 (IntKind.i64.wrap (IntKind.u8.wrap (((b.toNat : Nat) : Int) - 48)))) h46 fun q47 h48 => ?_
    clear h46
    have h49 := h48.keep [(22, .int .i64 (((digs s.data.toList).getD ((digs s.data.toList).length - 1 - k) 0 : Nat) : Int)), (21, .int .u8 (IntKind.u8.wrap (((b.toNat : Nat) : Int) - 48))), (5, .int .i64 ((k : Nat) : Int)), (12, .bool (decide (((k : Nat) : Int) < (((digs s.data.toList).length : Nat) : Int)))), (3, .string (⟨(expL s.data.toList).toArray⟩ : ByteArray)), (10, .int .i64 (((digs s.data.toList).length : Nat) : Int)), (11, .int .i64 ((k : Nat) : Int)), (4, .int .i64 ((lSum (digs s.data.toList) k : Nat) : Int))] ⟨look_int rfl hb2, rfl, rfl, rfl, rfl, rfl, rfl, rfl, trivial⟩
    clear h48
    refine b0 (.C 9 6 <| .nil) [(6, .int .i64 (((digs s.data.toList).getD ((digs s.data.toList).length - 1 - k) 0 : Nat) : Int)), (5, .int .i64 ((k : Nat) : Int)), (12, .bool (decide (((k : Nat) : Int) < (((digs s.data.toList).length : Nat) : Int)))), (3, .string (⟨(expL s.data.toList).toArray⟩ : ByteArray)), (10, .int .i64 (((digs s.data.toList).length : Nat) : Int)), (11, .int .i64 ((k : Nat) : Int)), (4, .int .i64 ((lSum (digs s.data.toList) k : Nat) : Int))] h49 (Kw.nil hB24) fun q50 h51 => ?_
    clear h49
    refine wpO_end ?_
    refine then_n ?_
    refine kS ?_
    refine kS ?_
    refine rp 3 ?_
    refine b0 (.C 0 23 <| .E 1 24 (.int .i64 (Int.tmod ((k : Nat) : Int) (2 : Int))) <| .E 2 25 (.bool (Int.tmod ((k : Nat) : Int) (2 : Int) == (0 : Int))) <| .nil) [(25, .bool (Int.tmod ((k : Nat) : Int) (2 : Int) == (0 : Int))), (6, .int .i64 (((digs s.data.toList).getD ((digs s.data.toList).length - 1 - k) 0 : Nat) : Int)), (5, .int .i64 ((k : Nat) : Int)), (12, .bool (decide (((k : Nat) : Int) < (((digs s.data.toList).length : Nat) : Int)))), (3, .string (⟨(expL s.data.toList).toArray⟩ : ByteArray)), (10, .int .i64 (((digs s.data.toList).length : Nat) : Int)), (11, .int .i64 ((k : Nat) : Int)), (4, .int .i64 ((lSum (digs s.data.toList) k : Nat) : Int))] h51 (Kw.nil hB24) fun q52 h53 => ?_
    clear h51
    refine wpO_end ?_
    refine then_n ?_
    refine kC 25 (Int.tmod ((k : Nat) : Int) (2 : Int) == (0 : Int)) h53 (fun hc54 => ?_) (fun hc54 => ?_)
    ·
      have hpar := hc54
      rw [par_eq] at hpar
      refine rp 3 ?_
      refine b0 (.C 0 26 <| .E 1 27 (.int .i64 (IntKind.i64.wrap ((((digs s.data.toList).getD ((digs s.data.toList).length - 1 - k) 0 : Nat) : Int) * 2))) <| .C 2 6 <| .nil) [(6, .int .i64 (IntKind.i64.wrap ((((digs s.data.toList).getD ((digs s.data.toList).length - 1 - k) 0 : Nat) : Int) * 2))), (25, .bool (Int.tmod ((k : Nat) : Int) (2 : Int) == (0 : Int))), (5, .int .i64 ((k : Nat) : Int)), (12, .bool (decide (((k : Nat) : Int) < (((digs s.data.toList).length : Nat) : Int)))), (3, .string (⟨(expL s.data.toList).toArray⟩ : ByteArray)), (10, .int .i64 (((digs s.data.toList).length : Nat) : Int)), (11, .int .i64 ((k : Nat) : Int)), (4, .int .i64 ((lSum (digs s.data.toList) k : Nat) : Int))] h53 (Kw.nil hB24) fun q55 h56 => ?_
      clear h53
      refine wpO_end ?_
      refine then_n ?_
      refine rp 8 ?_
      refine b0 (.C 0 28 <| .C 1 29 <| .E 2 30 (.int .i64 (IntKind.i64.wrap (Int.tdiv (IntKind.i64.wrap ((((digs s.data.toList).getD ((digs s.data.toList).length - 1 - k) 0 : Nat) : Int) * 2)) (10 : Int)))) <| .C 3 31 <| .E 4 32 (.int .i64 (Int.tmod (IntKind.i64.wrap ((((digs s.data.toList).getD ((digs s.data.toList).length - 1 - k) 0 : Nat) : Int) * 2)) (10 : Int))) <| .E 5 33 (.int .i64 (IntKind.i64.wrap ((IntKind.i64.wrap (Int.tdiv (IntKind.i64.wrap ((((digs s.data.toList).getD ((digs s.data.toList).length - 1 - k) 0 : Nat) : Int) * 2)) (10 : Int))) + (Int.tmod (IntKind.i64.wrap ((((digs s.data.toList).getD ((digs s.data.toList).length - 1 - k) 0 : Nat) : Int) * 2)) (10 : Int))))) <| .E 6 34 (.int .i64 (IntKind.i64.wrap (((lSum (digs s.data.toList) k : Nat) : Int) + (IntKind.i64.wrap ((IntKind.i64.wrap (Int.tdiv (IntKind.i64.wrap ((((digs s.data.toList).getD ((digs s.data.toList).length - 1 - k) 0 : Nat) : Int) * 2)) (10 : Int))) + (Int.tmod (IntKind.i64.wrap ((((digs s.data.toList).getD ((digs s.data.toList).length - 1 - k) 0 : Nat) : Int) * 2)) (10 : Int))))))) <| .C 7 4 <| .nil) [(4, .int .i64 (IntKind.i64.wrap (((lSum (digs s.data.toList) k : Nat) : Int) + (IntKind.i64.wrap ((IntKind.i64.wrap (Int.tdiv (IntKind.i64.wrap ((((digs s.data.toList).getD ((digs s.data.toList).length - 1 - k) 0 : Nat) : Int) * 2)) (10 : Int))) + (Int.tmod (IntKind.i64.wrap ((((digs s.data.toList).getD ((digs s.data.toList).length - 1 - k) 0 : Nat) : Int) * 2)) (10 : Int))))))), (6, .int .i64 (IntKind.i64.wrap ((((digs s.data.toList).getD ((digs s.data.toList).length - 1 - k) 0 : Nat) : Int) * 2))), (25, .bool (Int.tmod ((k : Nat) : Int) (2 : Int) == (0 : Int))), (5, .int .i64 ((k : Nat) : Int)), (12, .bool (decide (((k : Nat) : Int) < (((digs s.data.toList).length : Nat) : Int)))), (3, .string (⟨(expL s.data.toList).toArray⟩ : ByteArray)), (10, .int .i64 (((digs s.data.toList).length : Nat) : Int)), (11, .int .i64 ((k : Nat) : Int))] h56 (Kw.nil hB24) fun q57 h58 => ?_
      clear h56
      refine wpO_end ?_
      refine inB_n ?_
      refine then_n ?_
      refine rp 2 ?_
      refine b0 (.E 0 35 (.int .i64 (IntKind.i64.wrap (((k : Nat) : Int) + 1))) <| .C 1 11 <| .nil) [(11, .int .i64 (IntKind.i64.wrap (((k : Nat) : Int) + 1))), (4, .int .i64 (IntKind.i64.wrap (((lSum (digs s.data.toList) k : Nat) : Int) + (IntKind.i64.wrap ((IntKind.i64.wrap (Int.tdiv (IntKind.i64.wrap ((((digs s.data.toList).getD ((digs s.data.toList).length - 1 - k) 0 : Nat) : Int) * 2)) (10 : Int))) + (Int.tmod (IntKind.i64.wrap ((((digs s.data.toList).getD ((digs s.data.toList).length - 1 - k) 0 : Nat) : Int) * 2)) (10 : Int))))))), (6, .int .i64 (IntKind.i64.wrap ((((digs s.data.toList).getD ((digs s.data.toList).length - 1 - k) 0 : Nat) : Int) * 2))), (25, .bool (Int.tmod ((k : Nat) : Int) (2 : Int) == (0 : Int))), (5, .int .i64 ((k : Nat) : Int)), (12, .bool (decide (((k : Nat) : Int) < (((digs s.data.toList).length : Nat) : Int)))), (3, .string (⟨(expL s.data.toList).toArray⟩ : ByteArray)), (10, .int .i64 (((digs s.data.toList).length : Nat) : Int))] h58 (Kw.nil hB24) fun q59 h60 => ?_
      clear h58
      refine wpO_end ?_
      have h61 := h60.keep [(3, .string (⟨(expL s.data.toList).toArray⟩ : ByteArray)), (10, .int .i64 (((digs s.data.toList).length : Nat) : Int)), (11, .int .i64 (((k + 1) : Nat) : Int)), (4, .int .i64 ((lSum (digs s.data.toList) (k + 1) : Nat) : Int))] ⟨rfl, rfl, look_int rfl (wrap_succ (by have := hlen; have := hxl; omega)), look_int rfl (l_round k _ _ (IntKind.i64.wrap ((((digs s.data.toList).getD ((digs s.data.toList).length - 1 - k) 0 : Nat) : Int) * 2)) ⟨fun _ => (by rw [wrap_i64 (by omega) (by omega)]; omega), fun hh => absurd (by simpa using hpar) hh⟩ hd hS (by have := hlen; have := hxl; omega)), trivial⟩
      have hm62 := h61.int (k := 11) (kd := .i64) (z := (((k + 1) : Nat) : Int)) rfl
      refine then_n ⟨⟨k + 1, by omega, h61, hB24⟩, ?_⟩
      show ((((digs s.data.toList).length : Int)) - intAt _ 11).toNat < ((((digs s.data.toList).length : Int)) - intAt _ 11).toNat
      rw [hm26, hm62]; omega
    have hpar := hc54
    rw [par_eq] at hpar
    refine c_skip (by kernel_rfl) ?_
    refine then_n ?_
    refine rp 8 ?_
    refine b0 (.C 0 28 <| .C 1 29 <| .E 2 30 (.int .i64 (IntKind.i64.wrap (Int.tdiv (((digs s.data.toList).getD ((digs s.data.toList).length - 1 - k) 0 : Nat) : Int) (10 : Int)))) <| .C 3 31 <| .E 4 32 (.int .i64 (Int.tmod (((digs s.data.toList).getD ((digs s.data.toList).length - 1 - k) 0 : Nat) : Int) (10 : Int))) <| .E 5 33 (.int .i64 (IntKind.i64.wrap ((IntKind.i64.wrap (Int.tdiv (((digs s.data.toList).getD ((digs s.data.toList).length - 1 - k) 0 : Nat) : Int) (10 : Int))) + (Int.tmod (((digs s.data.toList).getD ((digs s.data.toList).length - 1 - k) 0 : Nat) : Int) (10 : Int))))) <| .E 6 34 (.int .i64 (IntKind.i64.wrap (((lSum (digs s.data.toList) k : Nat) : Int) + (IntKind.i64.wrap ((IntKind.i64.wrap (Int.tdiv (((digs s.data.toList).getD ((digs s.data.toList).length - 1 - k) 0 : Nat) : Int) (10 : Int))) + (Int.tmod (((digs s.data.toList).getD ((digs s.data.toList).length - 1 - k) 0 : Nat) : Int) (10 : Int))))))) <| .C 7 4 <| .nil) [(4, .int .i64 (IntKind.i64.wrap (((lSum (digs s.data.toList) k : Nat) : Int) + (IntKind.i64.wrap ((IntKind.i64.wrap (Int.tdiv (((digs s.data.toList).getD ((digs s.data.toList).length - 1 - k) 0 : Nat) : Int) (10 : Int))) + (Int.tmod (((digs s.data.toList).getD ((digs s.data.toList).length - 1 - k) 0 : Nat) : Int) (10 : Int))))))), (25, .bool (Int.tmod ((k : Nat) : Int) (2 : Int) == (0 : Int))), (6, .int .i64 (((digs s.data.toList).getD ((digs s.data.toList).length - 1 - k) 0 : Nat) : Int)), (5, .int .i64 ((k : Nat) : Int)), (12, .bool (decide (((k : Nat) : Int) < (((digs s.data.toList).length : Nat) : Int)))), (3, .string (⟨(expL s.data.toList).toArray⟩ : ByteArray)), (10, .int .i64 (((digs s.data.toList).length : Nat) : Int)), (11, .int .i64 ((k : Nat) : Int))] h53 (Kw.nil hB24) fun q63 h64 => ?_
    clear h53
    refine wpO_end ?_
    refine inB_n ?_
    refine then_n ?_
    refine rp 2 ?_
    refine b0 (.E 0 35 (.int .i64 (IntKind.i64.wrap (((k : Nat) : Int) + 1))) <| .C 1 11 <| .nil) [(11, .int .i64 (IntKind.i64.wrap (((k : Nat) : Int) + 1))), (4, .int .i64 (IntKind.i64.wrap (((lSum (digs s.data.toList) k : Nat) : Int) + (IntKind.i64.wrap ((IntKind.i64.wrap (Int.tdiv (((digs s.data.toList).getD ((digs s.data.toList).length - 1 - k) 0 : Nat) : Int) (10 : Int))) + (Int.tmod (((digs s.data.toList).getD ((digs s.data.toList).length - 1 - k) 0 : Nat) : Int) (10 : Int))))))), (25, .bool (Int.tmod ((k : Nat) : Int) (2 : Int) == (0 : Int))), (6, .int .i64 (((digs s.data.toList).getD ((digs s.data.toList).length - 1 - k) 0 : Nat) : Int)), (5, .int .i64 ((k : Nat) : Int)), (12, .bool (decide (((k : Nat) : Int) < (((digs s.data.toList).length : Nat) : Int)))), (3, .string (⟨(expL s.data.toList).toArray⟩ : ByteArray)), (10, .int .i64 (((digs s.data.toList).length : Nat) : Int))] h64 (Kw.nil hB24) fun q65 h66 => ?_
    clear h64
    refine wpO_end ?_
    have h67 := h66.keep [(3, .string (⟨(expL s.data.toList).toArray⟩ : ByteArray)), (10, .int .i64 (((digs s.data.toList).length : Nat) : Int)), (11, .int .i64 (((k + 1) : Nat) : Int)), (4, .int .i64 ((lSum (digs s.data.toList) (k + 1) : Nat) : Int))] ⟨rfl, rfl, look_int rfl (wrap_succ (by have := hlen; have := hxl; omega)), look_int rfl (l_round k _ _ ((((digs s.data.toList).getD ((digs s.data.toList).length - 1 - k) 0 : Nat) : Int)) ⟨fun hh => (by rw [hh] at hpar; cases hpar), fun _ => rfl⟩ hd hS (by have := hlen; have := hxl; omega)), trivial⟩
    have hm68 := h67.int (k := 11) (kd := .i64) (z := (((k + 1) : Nat) : Int)) rfl
    refine then_n ⟨⟨k + 1, by omega, h67, hB24⟩, ?_⟩
    show ((((digs s.data.toList).length : Int)) - intAt _ 11).toNat < ((((digs s.data.toList).length : Int)) - intAt _ 11).toNat
    rw [hm26, hm68]; omega
  have hp69 : ¬ (((k : Nat) : Int) < (((digs s.data.toList).length : Nat) : Int)) := of_decide_eq_false hc29
  obtain rfl : k = (digs s.data.toList).length := by omega
  refine c_exit 0 (by kernel_rfl) ?_
  refine then_e (then_e (inB_hit ?_))
  refine then_n ?_
  refine kS ?_
  refine rp 6 ?_
  refine b0 (.C 0 36 <| .E 1 37 (.int .i64 (Int.tmod ((lSum (digs s.data.toList) (digs s.data.toList).length : Nat) : Int) (10 : Int))) <| .E 2 38 (.int .i64 (IntKind.i64.wrap (10 - (Int.tmod ((lSum (digs s.data.toList) (digs s.data.toList).length : Nat) : Int) (10 : Int))))) <| .nil) [(38, .int .i64 (IntKind.i64.wrap (10 - (Int.tmod ((lSum (digs s.data.toList) (digs s.data.toList).length : Nat) : Int) (10 : Int)))))] h28 (Kw.nil hB24) fun q70 h71 => ?_
  clear h28
  refine eE 3 39 (.binOp .rem 3 (.tmp 38) (.const (.int .i64 10)) 3) 3 (.int .i64 (Int.tmod (IntKind.i64.wrap (10 - (Int.tmod ((lSum (digs s.data.toList) (digs s.data.toList).length : Nat) : Int) (10 : Int)))) (10 : Int))) h71 fun q72 h73 => ?_
  clear h71
  have h74 := h73.keep [(39, .int .i64 ((luhnD s.data.toList : Nat) : Int)), (38, .int .i64 (IntKind.i64.wrap (10 - (Int.tmod ((lSum (digs s.data.toList) (digs s.data.toList).length : Nat) : Int) (10 : Int)))))] ⟨look_int rfl (luhn_end _ (by have := hlen; have := hxl; omega)), rfl, trivial⟩
  clear h73
  refine sC 4 40 h74 gok_none (c101 (luhnD s.data.toList) (Nat.lt_of_lt_of_le (luhnD_lt _) (by omega)) w22) ?_
  rintro _ w77 ⟨rfl, hb78⟩
  have hB79 := hB24.call hb78
  refine ⟨_, rfl, trivial, fun q75 h76 => ?_⟩
  clear h74 hB24 hb78
  refine b0 (.C 5 2 <| .nil) [(2, .string (⟨(Lib.decDigits (luhnD s.data.toList)).toArray⟩ : ByteArray))] h76 (Kw.nil hB79) fun q80 h81 => ?_
  clear h76
  refine wpO_end ?_
  refine then_n ?_
  refine c_ret (by kernel_rfl) ?_
  refine ret1 (t := 2) (v := .string (⟨(Lib.decDigits (luhnD s.data.toList)).toArray⟩ : ByteArray)) h81 (by kernel_rfl) (by kernel_rfl) ?_
  exact ⟨by rw [decDigits_one _ (luhnD_lt _)], hB79.bel⟩

end Go.Proofs.YtljegdokbifoiaaGreatDoor.Af

namespace Go.Proofs.YtljegdokbifoiaaGreatDoor.Af
open Go.RowKit
theorem cls_ok0 : ∀ g ∈ clsOf sp0, g = 119 ∨ g = 120 ∨ g = 121 ∨ g = 123 := by rw [clsOf0]; decide
theorem cls_ok1 : ∀ g ∈ clsOf sp1, g = 119 ∨ g = 120 ∨ g = 121 ∨ g = 123 := by rw [clsOf1]; decide
theorem cls_ok2 : ∀ g ∈ clsOf sp2, g = 119 ∨ g = 120 ∨ g = 121 ∨ g = 123 := by rw [clsOf2]; decide
theorem isin_p (s : ByteArray) (h : (pfxE (clsOf sp0) 12 s != 0) = true) : (pfxE (clsOf sp0) 12 s == 0) = isinB s := by
  unfold isinB
  have h' : (pfxE (clsOf sp0) 12 s == 0) = false := by simpa using h
  rw [h', Bool.false_and]
theorem isin_q (s : ByteArray) (b : Bool) (e : Int) (he : (e == 0) = !b) (h : (pfxE (clsOf sp0) 12 s != 0) = false)
    (h2 : ((⟨#[UInt8.ofNat (48 + luhnD (s.extract 0 11).data.toList)]⟩ : ByteArray).toList != (s.extract 11 s.size).toList) = b) : (e == 0) = isinB s := by
  unfold isinB
  have h' : (pfxE (clsOf sp0) 12 s == 0) = true := by simpa using h
  rw [h', Bool.true_and, he, ← h2]
  unfold bne
  rw [Bool.not_not]
theorem none_p (e : Int) (h : (e != 0) = false) : ((0 : Int) == 0) = (e == 0) := by
  have h' : (e == 0) = true := by simpa using h
  rw [h']
  rfl

set_option maxHeartbeats 4000000 in
set_option maxRecDepth 20000 in
theorem c61_0 (s : ByteArray) (w : World) : Calls Tryz.prog 87 #[.int .i64 0, .string s] w (fun e w' => ∃ at' E : Int, e = .returned (.tuple #[.int .i64 at', .int .i64 E]) ∧ (E == 0) = isinB s ∧ Below w.heap.size w w') := by
  refine enter Tryz.func87 (by kernel_rfl) ?_ (by kernel_rfl)
  intro q0 h0
  replace h0 := h0.conv (l' := [(0, .int .i64 0), (1, .string s)]) rfl
  have hB := Bx.refl w
  refine kS ?_
  refine rp 2 ?_
  refine b0 (.C 0 4 <| .C 1 5 <| .nil) [(5, .int .i64 0), (4, .int .i64 0), (0, .int .i64 0), (1, .string s)] h0 (Kw.nil hB) fun q1 h2 => ?_
  clear h0
  refine wpO_end ?_
  refine then_n ?_
  refine kS ?_
  refine kS ?_
  refine rp 6 ?_
  refine b1 11 (rfl : false = false) (.C 0 9 <| .E 1 10 (.bool false) <| .C 2 11 <| .C 3 12 <| .E 4 13 (.bool false) <| .E 5 14 (.bool false) <| .nil) [(14, .bool false), (5, .int .i64 0), (4, .int .i64 0), (0, .int .i64 0), (1, .string s)] h2 (Kw.nil hB) fun q3 h4 => ?_
  clear h2
  refine wpO_end ?_
  refine then_n ?_
  refine kC 14 false h4 (fun e5 => Bool.noConfusion (e5.symm.trans (rfl))) (fun _ => ?_)
  refine c_skip (by kernel_rfl) ?_
  refine then_n ?_
  refine kS ?_
  refine rp 5 ?_
  refine sC 0 15 h4 gok_none (c67 w) ?_
  rintro _ w12 ⟨b8, b9, b10, b11, rfl, hr15, hr16, hr17, hb13⟩
  have hB14 := hB.call hb13
  refine ⟨_, rfl, trivial, fun q6 h7 => ?_⟩
  clear h4 hB hb13
  have hbl18 := hB14.bel
  have hB19 := Bx.refl w12
  clear hB14
  refine b0 (.C 1 16 <| .E 2 17 (.agg #[.int .i64 12, .slice (some ⟨b8, 0, none⟩) 3 3, .int .i64 11, .func (.func 122) #[] #[]]) <| .nil) [(17, .agg #[.int .i64 12, .slice (some ⟨b8, 0, none⟩) 3 3, .int .i64 11, .func (.func 122) #[] #[]]), (5, .int .i64 0), (4, .int .i64 0), (1, .string s)] h7 (Kw.nil hB19) fun q20 h21 => ?_
  clear h7
  refine sA 3 6 (fun b => .pointer (some ⟨b, 0, none⟩)) (.cells #[.int .i64 0, .slice none 0 0, .int .i64 0, .nilFunc] 179 (0, 0)) h21 gok_none hB19 (fun _ _ hq => trivial) (fun b24 w25 hB26 hN q22 h23 => ?_)
  clear h21 hB19 hN
  refine sW 4 0 0 [(b24, .cells #[.int .i64 12, .slice (some ⟨b8, 0, none⟩) 3 3, .int .i64 11, .func (.func 122) #[] #[]] 179 (0, 0))] h23 gok_none hB26 (.inr fun _ _ => trivial) (fun w29 hB30 hT q27 h28 => ?_)
  clear h23 hB26
  clear hT
  refine wpO_end ?_
  have h31 := h28.keep [(6, .pointer (some ⟨b24, 0, none⟩)), (5, .int .i64 0), (4, .int .i64 0), (1, .string s)] ⟨rfl, rfl, rfl, rfl, trivial⟩
  clear h28
  refine then_n ?_
  refine kS ?_
  refine kS ?_
  have hD32 := hB30.drew
  refine rd (Bx w12 [(b24, .cells #[.int .i64 12, .slice (some ⟨b8, 0, none⟩) 3 3, .int .i64 11, .func (.func 122) #[] #[]] 179 (0, 0))]) 11 [⟨0, true, 0, 64, 524288⟩, ⟨2, true, 0, 64, 2097152⟩, ⟨3, true, 4, 2097152, 4194304⟩, ⟨4, true, 0, 2, 8388608⟩, ⟨1, false, 1, 524288, 1048576⟩, ⟨5, false, 26, 13631488, 16777216⟩, ⟨6, true, 32, 16777216, 262144⟩, ⟨7, true, 64, 262144, 33554432⟩, ⟨8, true, 64, 262144, 67108864⟩, ⟨9, true, 255, 33554432, 128⟩, ⟨10, true, 1023, 67108864, 256⟩] hD32 ?_
  generalize World.drew w29 = w33 at hD32 ⊢
  refine d0 (.S 0 19 0 0 4 <| .C 2 21 <| .L 3 22 0 0 <| .C 4 23 <| .nil) [(23, .string s), (22, .int .i64 12), (19, .agg #[.int .i64 12, .slice (some ⟨b8, 0, none⟩) 3 3, .int .i64 11, .func (.func 122) #[] #[]]), (6, .pointer (some ⟨b24, 0, none⟩)), (5, .int .i64 0), (4, .int .i64 0), (1, .string s)] h31 (fun _ hS => Kw.nil hS) fun q34 h35 => ?_
  clear h31
  refine sC 1 20 h35 gok_none (c69 12 11 (.func (.func 122) #[] #[]) sp0 (some ⟨b8, 0, none⟩) 3 w33 (by decide) (by decide) (hr15.below hD32.bel)) ?_
  rintro _ w40 ⟨v45, rfl, ho43, hb41⟩
  obtain ⟨A38, cp39, rfl, -, hr44⟩ := own_rd ho43
  have hB42 := hD32.call hb41
  refine ⟨_, rfl, hB42, fun q36 h37 => ?_⟩
  clear h35 hD32 hb41
  refine sC 5 24 h37 gok_none (c68 (clsOf sp0) A38 cp39 12 s w40 (by decide) cls_ok0 hr44) ?_
  rintro _ w49 ⟨at'48, rfl, hb50⟩
  have hB51 := hB42.call hb50
  refine ⟨_, rfl, hB51, fun q46 h47 => ?_⟩
  clear h37 hB42 hb50
  refine d0 (.C 6 18 <| .E 7 25 (.int .i64 at'48) <| .E 8 26 (.int .i64 (pfxE (clsOf sp0) 12 s)) <| .C 9 7 <| .C 10 8 <| .nil) [(8, .int .i64 (pfxE (clsOf sp0) 12 s)), (7, .int .i64 at'48), (6, .pointer (some ⟨b24, 0, none⟩)), (5, .int .i64 0), (4, .int .i64 0), (1, .string s)] h47 (fun _ hS => Kw.nil hS) fun q52 h53 => ?_
  clear h47
  refine wpO_end ?_
  refine then_n ?_
  refine kS ?_
  refine rp 2 ?_
  refine b0 (.C 0 27 <| .E 1 28 (.bool (pfxE (clsOf sp0) 12 s != (0 : Int))) <| .nil) [(28, .bool (pfxE (clsOf sp0) 12 s != (0 : Int))), (8, .int .i64 (pfxE (clsOf sp0) 12 s)), (7, .int .i64 at'48), (6, .pointer (some ⟨b24, 0, none⟩)), (5, .int .i64 0), (4, .int .i64 0), (1, .string s)] h53 (Kw.nil hB51) fun q54 h55 => ?_
  clear h53
  refine wpO_end ?_
  refine then_n ?_
  refine kC 28 (pfxE (clsOf sp0) 12 s != (0 : Int)) h55 (fun hc56 => ?_) (fun hc56 => ?_)
  ·
    refine kS ?_
    refine rp 4 ?_
    refine b0 (.C 0 29 <| .C 1 30 <| .C 2 4 <| .C 3 5 <| .nil) [(5, .int .i64 (pfxE (clsOf sp0) 12 s)), (4, .int .i64 at'48), (6, .pointer (some ⟨b24, 0, none⟩)), (1, .string s)] h55 (Kw.nil hB51) fun q57 h58 => ?_
    clear h55
    refine wpO_end ?_
    refine then_n ?_
    refine c_ret (by kernel_rfl) ?_
    refine then_r ?_
    refine ret2 (t := 4) (u := 5) (v := .int .i64 at'48) (v' := .int .i64 (pfxE (clsOf sp0) 12 s)) h58 (by kernel_rfl) (by kernel_rfl) (by kernel_rfl) ?_
    exact ⟨_, _, rfl, isin_p s hc56, (hbl18.trans (hB51.bel.mono hbl18.size))⟩
  have hbody := isin_body s (by simpa using hc56)
  have hsz := hbody.1
  refine c_skip (by kernel_rfl) ?_
  refine then_n ?_
  refine kS ?_
  refine kS ?_
  have hD59 := hB51.drew
  refine rd (Bx w12 [(b24, .cells #[.int .i64 12, .slice (some ⟨b8, 0, none⟩) 3 3, .int .i64 11, .func (.func 122) #[] #[]] 179 (0, 0))]) 17 [⟨0, true, 0, 64, 2147483648⟩, ⟨1, true, 1, 2147483648, 4294967296⟩, ⟨2, true, 2, 4294967296, 8589934592⟩, ⟨3, true, 4, 8589934592, 17179869184⟩, ⟨4, true, 8, 17179869248, 34359738368⟩, ⟨5, true, 24, 51539607552, 68719476736⟩, ⟨6, true, 8, 17179869186, 137438953472⟩, ⟨7, true, 8, 17179869248, 274877906944⟩, ⟨8, true, 136, 292057776128, 549755813888⟩, ⟨9, true, 328, 704374636544, 1099511627776⟩, ⟨11, true, 8, 17179869186, 4398046511104⟩, ⟨12, true, 8, 17179869248, 8796093022208⟩, ⟨13, true, 4104, 8813272891392, 17592186044416⟩, ⟨14, true, 10248, 22007412424704, 35184372088832⟩, ⟨10, false, 552, 1185410973696, 2199023255552⟩, ⟨15, true, 17416, 37400575213568, 70368744177664⟩, ⟨16, true, 32776, 70385924046848, 140737488355328⟩] hD59 ?_
  generalize World.drew w49 = w60 at hD59 ⊢
  refine d1 34 (rfl : true = true) (.C 0 31 <| .L 1 32 0 3 <| .E 2 33 (.bool true) <| .C 3 34 <| .C 4 35 <| .L 5 36 0 3 <| .C 6 37 <| .C 7 38 <| .L 8 39 0 2 <| .nil) [(39, .int .i64 11), (37, .string s), (36, .func (.func 122) #[] #[]), (34, .bool true), (6, .pointer (some ⟨b24, 0, none⟩)), (5, .int .i64 0), (4, .int .i64 0), (1, .string s)] h55 (fun _ hS => Kw.nil hS) fun q61 h62 => ?_
  clear h55
  refine fG 9 40 (.slice 9 (.tmp 37) none (some (.tmp 39)) none) 9 (3, true) (.string (s.extract 0 11)) (g1 34 (rfl : true = true)) h62 (hr := fun _ hS => r_sliceSHi (kd := .i64) (i := 11) (by kernel_rfl) (by kernel_rfl) (by omega) (by kernel_rfl)) fun q63 h64 => ?_
  clear h62
  refine d1 34 (rfl : true = true) (.C 11 42 <| .C 12 43 <| .L 13 44 0 2 <| .nil) [(44, .int .i64 11), (42, .string s), (40, .string (s.extract 0 11)), (36, .func (.func 122) #[] #[]), (34, .bool true), (6, .pointer (some ⟨b24, 0, none⟩)), (5, .int .i64 0), (4, .int .i64 0)] h64 (fun _ hS => Kw.nil hS) fun q65 h66 => ?_
  clear h64
  refine fG 14 45 (.slice 9 (.tmp 42) (some (.tmp 44)) none none) 9 (3, true) (.string (s.extract 11 s.size)) (g1 34 (rfl : true = true)) h66 (hr := fun _ hS => r_sliceSLo (kd := .i64) (i := 11) (by kernel_rfl) (by kernel_rfl) (by omega) (by kernel_rfl)) fun q67 h68 => ?_
  clear h66
  refine sC 10 41 (g := (some (3, true))) h68 (g1 34 (rfl : true = true)) (c89 (s.extract 0 11) w60 (by rw [extract_size _ _ (by omega)]; omega) hbody.2) ?_
  rintro _ w71 ⟨rfl, hb72⟩
  have hB73 := hD59.call hb72
  refine ⟨_, rfl, hB73, fun q69 h70 => ?_⟩
  clear h68 hD59 hb72
  refine d1 34 (rfl : true = true) (.E 15 46 (.bool ((⟨#[UInt8.ofNat (48 + luhnD (s.extract 0 11).data.toList)]⟩ : ByteArray).toList != (s.extract 11 s.size).toList)) <| .E 16 47 (.bool ((⟨#[UInt8.ofNat (48 + luhnD (s.extract 0 11).data.toList)]⟩ : ByteArray).toList != (s.extract 11 s.size).toList)) <| .nil) [(47, .bool ((⟨#[UInt8.ofNat (48 + luhnD (s.extract 0 11).data.toList)]⟩ : ByteArray).toList != (s.extract 11 s.size).toList)), (6, .pointer (some ⟨b24, 0, none⟩)), (5, .int .i64 0), (4, .int .i64 0)] h70 (fun _ hS => Kw.nil hS) fun q74 h75 => ?_
  clear h70
  refine wpO_end ?_
  refine then_n ?_
  refine kC 47 ((⟨#[UInt8.ofNat (48 + luhnD (s.extract 0 11).data.toList)]⟩ : ByteArray).toList != (s.extract 11 s.size).toList) h75 (fun hc76 => ?_) (fun hc76 => ?_)
  ·
    refine kS ?_
    refine rp 4 ?_
    refine b0 (.C 0 48 <| .L 1 49 0 2 <| .C 2 4 <| .C 3 5 <| .nil) [(5, .int .i64 18), (4, .int .i64 11)] h75 (Kw.nil hB73) fun q77 h78 => ?_
    clear h75
    refine wpO_end ?_
    refine then_n ?_
    refine c_ret (by kernel_rfl) ?_
    refine then_r ?_
    refine ret2 (t := 4) (u := 5) (v := .int .i64 11) (v' := .int .i64 18) h78 (by kernel_rfl) (by kernel_rfl) (by kernel_rfl) ?_
    exact ⟨_, _, rfl, isin_q s true 18 rfl hc56 hc76, (hbl18.trans (hB73.bel.mono hbl18.size))⟩
  refine c_skip (by kernel_rfl) ?_
  refine then_n ?_
  refine kS ?_
  refine rp 2 ?_
  refine b0 (.C 0 4 <| .C 1 5 <| .nil) [(5, .int .i64 0), (4, .int .i64 0)] h75 (Kw.nil hB73) fun q79 h80 => ?_
  clear h75
  refine wpO_end ?_
  refine then_n ?_
  refine c_ret (by kernel_rfl) ?_
  refine ret2 (t := 4) (u := 5) (v := .int .i64 0) (v' := .int .i64 0) h80 (by kernel_rfl) (by kernel_rfl) (by kernel_rfl) ?_
  exact ⟨_, _, rfl, isin_q s false 0 rfl hc56 hc76, (hbl18.trans (hB73.bel.mono hbl18.size))⟩

set_option maxHeartbeats 4000000 in
set_option maxRecDepth 20000 in
theorem c61_1 (s : ByteArray) (w : World) : Calls Tryz.prog 87 #[.int .i64 1, .string s] w (fun e w' => ∃ at' E : Int, e = .returned (.tuple #[.int .i64 at', .int .i64 E]) ∧ (E == 0) = memB s ∧ Below w.heap.size w w') := by
  refine enter Tryz.func87 (by kernel_rfl) ?_ (by kernel_rfl)
  intro q0 h0
  replace h0 := h0.conv (l' := [(0, .int .i64 1), (1, .string s)]) rfl
  have hB := Bx.refl w
  refine kS ?_
  refine rp 2 ?_
  refine b0 (.C 0 4 <| .C 1 5 <| .nil) [(5, .int .i64 0), (4, .int .i64 0), (0, .int .i64 1), (1, .string s)] h0 (Kw.nil hB) fun q1 h2 => ?_
  clear h0
  refine wpO_end ?_
  refine then_n ?_
  refine kS ?_
  refine kS ?_
  refine rp 6 ?_
  refine b1 11 (rfl : false = false) (.C 0 9 <| .E 1 10 (.bool false) <| .C 2 11 <| .C 3 12 <| .E 4 13 (.bool false) <| .E 5 14 (.bool false) <| .nil) [(14, .bool false), (5, .int .i64 0), (4, .int .i64 0), (0, .int .i64 1), (1, .string s)] h2 (Kw.nil hB) fun q3 h4 => ?_
  clear h2
  refine wpO_end ?_
  refine then_n ?_
  refine kC 14 false h4 (fun e5 => Bool.noConfusion (e5.symm.trans (rfl))) (fun _ => ?_)
  refine c_skip (by kernel_rfl) ?_
  refine then_n ?_
  refine kS ?_
  refine rp 5 ?_
  refine sC 0 15 h4 gok_none (c67 w) ?_
  rintro _ w12 ⟨b8, b9, b10, b11, rfl, hr15, hr16, hr17, hb13⟩
  have hB14 := hB.call hb13
  refine ⟨_, rfl, trivial, fun q6 h7 => ?_⟩
  clear h4 hB hb13
  have hbl18 := hB14.bel
  have hB19 := Bx.refl w12
  clear hB14
  refine b0 (.C 1 16 <| .E 2 17 (.agg #[.int .i64 4, .slice (some ⟨b9, 0, none⟩) 2 2, .int .i64 0, .nilFunc]) <| .nil) [(17, .agg #[.int .i64 4, .slice (some ⟨b9, 0, none⟩) 2 2, .int .i64 0, .nilFunc]), (5, .int .i64 0), (4, .int .i64 0), (1, .string s)] h7 (Kw.nil hB19) fun q20 h21 => ?_
  clear h7
  refine sA 3 6 (fun b => .pointer (some ⟨b, 0, none⟩)) (.cells #[.int .i64 0, .slice none 0 0, .int .i64 0, .nilFunc] 179 (0, 0)) h21 gok_none hB19 (fun _ _ hq => trivial) (fun b24 w25 hB26 hN q22 h23 => ?_)
  clear h21 hB19 hN
  refine sW 4 0 0 [(b24, .cells #[.int .i64 4, .slice (some ⟨b9, 0, none⟩) 2 2, .int .i64 0, .nilFunc] 179 (0, 0))] h23 gok_none hB26 (.inr fun _ _ => trivial) (fun w29 hB30 hT q27 h28 => ?_)
  clear h23 hB26
  clear hT
  refine wpO_end ?_
  have h31 := h28.keep [(6, .pointer (some ⟨b24, 0, none⟩)), (5, .int .i64 0), (4, .int .i64 0), (1, .string s)] ⟨rfl, rfl, rfl, rfl, trivial⟩
  clear h28
  refine then_n ?_
  refine kS ?_
  refine kS ?_
  have hD32 := hB30.drew
  refine rd (Bx w12 [(b24, .cells #[.int .i64 4, .slice (some ⟨b9, 0, none⟩) 2 2, .int .i64 0, .nilFunc] 179 (0, 0))]) 11 [⟨0, true, 0, 64, 524288⟩, ⟨2, true, 0, 64, 2097152⟩, ⟨3, true, 4, 2097152, 4194304⟩, ⟨4, true, 0, 2, 8388608⟩, ⟨1, false, 1, 524288, 1048576⟩, ⟨5, false, 26, 13631488, 16777216⟩, ⟨6, true, 32, 16777216, 262144⟩, ⟨7, true, 64, 262144, 33554432⟩, ⟨8, true, 64, 262144, 67108864⟩, ⟨9, true, 255, 33554432, 128⟩, ⟨10, true, 1023, 67108864, 256⟩] hD32 ?_
  generalize World.drew w29 = w33 at hD32 ⊢
  refine d0 (.S 0 19 0 0 4 <| .C 2 21 <| .L 3 22 0 0 <| .C 4 23 <| .nil) [(23, .string s), (22, .int .i64 4), (19, .agg #[.int .i64 4, .slice (some ⟨b9, 0, none⟩) 2 2, .int .i64 0, .nilFunc]), (6, .pointer (some ⟨b24, 0, none⟩)), (5, .int .i64 0), (4, .int .i64 0), (1, .string s)] h31 (fun _ hS => Kw.nil hS) fun q34 h35 => ?_
  clear h31
  refine sC 1 20 h35 gok_none (c69 4 0 .nilFunc sp1 (some ⟨b9, 0, none⟩) 2 w33 (by decide) (by decide) (hr16.below hD32.bel)) ?_
  rintro _ w40 ⟨v45, rfl, ho43, hb41⟩
  obtain ⟨A38, cp39, rfl, -, hr44⟩ := own_rd ho43
  have hB42 := hD32.call hb41
  refine ⟨_, rfl, hB42, fun q36 h37 => ?_⟩
  clear h35 hD32 hb41
  refine sC 5 24 h37 gok_none (c68 (clsOf sp1) A38 cp39 4 s w40 (by decide) cls_ok1 hr44) ?_
  rintro _ w49 ⟨at'48, rfl, hb50⟩
  have hB51 := hB42.call hb50
  refine ⟨_, rfl, hB51, fun q46 h47 => ?_⟩
  clear h37 hB42 hb50
  refine d0 (.C 6 18 <| .E 7 25 (.int .i64 at'48) <| .E 8 26 (.int .i64 (pfxE (clsOf sp1) 4 s)) <| .C 9 7 <| .C 10 8 <| .nil) [(8, .int .i64 (pfxE (clsOf sp1) 4 s)), (7, .int .i64 at'48), (6, .pointer (some ⟨b24, 0, none⟩)), (5, .int .i64 0), (4, .int .i64 0), (1, .string s)] h47 (fun _ hS => Kw.nil hS) fun q52 h53 => ?_
  clear h47
  refine wpO_end ?_
  refine then_n ?_
  refine kS ?_
  refine rp 2 ?_
  refine b0 (.C 0 27 <| .E 1 28 (.bool (pfxE (clsOf sp1) 4 s != (0 : Int))) <| .nil) [(28, .bool (pfxE (clsOf sp1) 4 s != (0 : Int))), (8, .int .i64 (pfxE (clsOf sp1) 4 s)), (7, .int .i64 at'48), (6, .pointer (some ⟨b24, 0, none⟩)), (5, .int .i64 0), (4, .int .i64 0), (1, .string s)] h53 (Kw.nil hB51) fun q54 h55 => ?_
  clear h53
  refine wpO_end ?_
  refine then_n ?_
  refine kC 28 (pfxE (clsOf sp1) 4 s != (0 : Int)) h55 (fun hc56 => ?_) (fun hc56 => ?_)
  ·
    refine kS ?_
    refine rp 4 ?_
    refine b0 (.C 0 29 <| .C 1 30 <| .C 2 4 <| .C 3 5 <| .nil) [(5, .int .i64 (pfxE (clsOf sp1) 4 s)), (4, .int .i64 at'48), (6, .pointer (some ⟨b24, 0, none⟩)), (1, .string s)] h55 (Kw.nil hB51) fun q57 h58 => ?_
    clear h55
    refine wpO_end ?_
    refine then_n ?_
    refine c_ret (by kernel_rfl) ?_
    refine then_r ?_
    refine ret2 (t := 4) (u := 5) (v := .int .i64 at'48) (v' := .int .i64 (pfxE (clsOf sp1) 4 s)) h58 (by kernel_rfl) (by kernel_rfl) (by kernel_rfl) ?_
    exact ⟨_, _, rfl, rfl, (hbl18.trans (hB51.bel.mono hbl18.size))⟩
  refine c_skip (by kernel_rfl) ?_
  refine then_n ?_
  refine kS ?_
  refine kS ?_
  have hD59 := hB51.drew
  refine rd (Bx w12 [(b24, .cells #[.int .i64 4, .slice (some ⟨b9, 0, none⟩) 2 2, .int .i64 0, .nilFunc] 179 (0, 0))]) 17 [⟨0, true, 0, 64, 2147483648⟩, ⟨1, true, 1, 2147483648, 4294967296⟩, ⟨2, true, 2, 4294967296, 8589934592⟩, ⟨3, true, 4, 8589934592, 17179869184⟩, ⟨4, true, 8, 17179869248, 34359738368⟩, ⟨5, true, 24, 51539607552, 68719476736⟩, ⟨6, true, 8, 17179869186, 137438953472⟩, ⟨7, true, 8, 17179869248, 274877906944⟩, ⟨8, true, 136, 292057776128, 549755813888⟩, ⟨9, true, 328, 704374636544, 1099511627776⟩, ⟨11, true, 8, 17179869186, 4398046511104⟩, ⟨12, true, 8, 17179869248, 8796093022208⟩, ⟨13, true, 4104, 8813272891392, 17592186044416⟩, ⟨14, true, 10248, 22007412424704, 35184372088832⟩, ⟨10, false, 552, 1185410973696, 2199023255552⟩, ⟨15, true, 17416, 37400575213568, 70368744177664⟩, ⟨16, true, 32776, 70385924046848, 140737488355328⟩] hD59 ?_
  generalize World.drew w49 = w60 at hD59 ⊢
  refine d1 34 (rfl : false = false) (.C 0 31 <| .L 1 32 0 3 <| .E 2 33 (.bool false) <| .C 3 34 <| .K 4 35 <| .K 5 36 <| .K 6 37 <| .K 7 38 <| .K 8 39 <| .K 9 40 <| .K 11 42 <| .K 12 43 <| .K 13 44 <| .K 14 45 <| .nil) [(45, undef), (40, undef), (36, undef), (34, .bool false), (6, .pointer (some ⟨b24, 0, none⟩)), (5, .int .i64 0), (4, .int .i64 0)] h55 (fun _ hS => Kw.nil hS) fun q61 h62 => ?_
  clear h55
  refine kE 10 41 (3, true) (g3 34 (rfl : false = false)) h62 hD59 fun q63 h64 => ?_
  clear h62
  refine d1 34 (rfl : false = false) (.K 15 46 <| .E 16 47 (.bool false) <| .nil) [(47, .bool false), (6, .pointer (some ⟨b24, 0, none⟩)), (5, .int .i64 0), (4, .int .i64 0)] h64 (fun _ hS => Kw.nil hS) fun q65 h66 => ?_
  clear h64
  refine wpO_end ?_
  refine then_n ?_
  refine kC 47 false h66 (fun e67 => Bool.noConfusion (e67.symm.trans (rfl))) (fun _ => ?_)
  refine c_skip (by kernel_rfl) ?_
  refine then_n ?_
  refine kS ?_
  refine rp 2 ?_
  refine b0 (.C 0 4 <| .C 1 5 <| .nil) [(5, .int .i64 0), (4, .int .i64 0)] h66 (Kw.nil hD59) fun q68 h69 => ?_
  clear h66
  refine wpO_end ?_
  refine then_n ?_
  refine c_ret (by kernel_rfl) ?_
  refine ret2 (t := 4) (u := 5) (v := .int .i64 0) (v' := .int .i64 0) h69 (by kernel_rfl) (by kernel_rfl) (by kernel_rfl) ?_
  exact ⟨_, _, rfl, none_p _ hc56, (hbl18.trans (hD59.bel.mono hbl18.size))⟩

set_option maxHeartbeats 4000000 in
set_option maxRecDepth 20000 in
theorem c61_2 (s : ByteArray) (w : World) : Calls Tryz.prog 87 #[.int .i64 2, .string s] w (fun e w' => ∃ at' E : Int, e = .returned (.tuple #[.int .i64 at', .int .i64 E]) ∧ (E == 0) = rfB s ∧ Below w.heap.size w w') := by
  refine enter Tryz.func87 (by kernel_rfl) ?_ (by kernel_rfl)
  intro q0 h0
  replace h0 := h0.conv (l' := [(0, .int .i64 2), (1, .string s)]) rfl
  have hB := Bx.refl w
  refine kS ?_
  refine rp 2 ?_
  refine b0 (.C 0 4 <| .C 1 5 <| .nil) [(5, .int .i64 0), (4, .int .i64 0), (0, .int .i64 2), (1, .string s)] h0 (Kw.nil hB) fun q1 h2 => ?_
  clear h0
  refine wpO_end ?_
  refine then_n ?_
  refine kS ?_
  refine kS ?_
  refine rp 6 ?_
  refine b1 11 (rfl : false = false) (.C 0 9 <| .E 1 10 (.bool false) <| .C 2 11 <| .C 3 12 <| .E 4 13 (.bool false) <| .E 5 14 (.bool false) <| .nil) [(14, .bool false), (5, .int .i64 0), (4, .int .i64 0), (0, .int .i64 2), (1, .string s)] h2 (Kw.nil hB) fun q3 h4 => ?_
  clear h2
  refine wpO_end ?_
  refine then_n ?_
  refine kC 14 false h4 (fun e5 => Bool.noConfusion (e5.symm.trans (rfl))) (fun _ => ?_)
  refine c_skip (by kernel_rfl) ?_
  refine then_n ?_
  refine kS ?_
  refine rp 5 ?_
  refine sC 0 15 h4 gok_none (c67 w) ?_
  rintro _ w12 ⟨b8, b9, b10, b11, rfl, hr15, hr16, hr17, hb13⟩
  have hB14 := hB.call hb13
  refine ⟨_, rfl, trivial, fun q6 h7 => ?_⟩
  clear h4 hB hb13
  have hbl18 := hB14.bel
  have hB19 := Bx.refl w12
  clear hB14
  refine b0 (.C 1 16 <| .E 2 17 (.agg #[.int .i64 1, .slice (some ⟨b10, 0, none⟩) 1 1, .int .i64 0, .nilFunc]) <| .nil) [(17, .agg #[.int .i64 1, .slice (some ⟨b10, 0, none⟩) 1 1, .int .i64 0, .nilFunc]), (5, .int .i64 0), (4, .int .i64 0), (1, .string s)] h7 (Kw.nil hB19) fun q20 h21 => ?_
  clear h7
  refine sA 3 6 (fun b => .pointer (some ⟨b, 0, none⟩)) (.cells #[.int .i64 0, .slice none 0 0, .int .i64 0, .nilFunc] 179 (0, 0)) h21 gok_none hB19 (fun _ _ hq => trivial) (fun b24 w25 hB26 hN q22 h23 => ?_)
  clear h21 hB19 hN
  refine sW 4 0 0 [(b24, .cells #[.int .i64 1, .slice (some ⟨b10, 0, none⟩) 1 1, .int .i64 0, .nilFunc] 179 (0, 0))] h23 gok_none hB26 (.inr fun _ _ => trivial) (fun w29 hB30 hT q27 h28 => ?_)
  clear h23 hB26
  clear hT
  refine wpO_end ?_
  have h31 := h28.keep [(6, .pointer (some ⟨b24, 0, none⟩)), (5, .int .i64 0), (4, .int .i64 0), (1, .string s)] ⟨rfl, rfl, rfl, rfl, trivial⟩
  clear h28
  refine then_n ?_
  refine kS ?_
  refine kS ?_
  have hD32 := hB30.drew
  refine rd (Bx w12 [(b24, .cells #[.int .i64 1, .slice (some ⟨b10, 0, none⟩) 1 1, .int .i64 0, .nilFunc] 179 (0, 0))]) 11 [⟨0, true, 0, 64, 524288⟩, ⟨2, true, 0, 64, 2097152⟩, ⟨3, true, 4, 2097152, 4194304⟩, ⟨4, true, 0, 2, 8388608⟩, ⟨1, false, 1, 524288, 1048576⟩, ⟨5, false, 26, 13631488, 16777216⟩, ⟨6, true, 32, 16777216, 262144⟩, ⟨7, true, 64, 262144, 33554432⟩, ⟨8, true, 64, 262144, 67108864⟩, ⟨9, true, 255, 33554432, 128⟩, ⟨10, true, 1023, 67108864, 256⟩] hD32 ?_
  generalize World.drew w29 = w33 at hD32 ⊢
  refine d0 (.S 0 19 0 0 4 <| .C 2 21 <| .L 3 22 0 0 <| .C 4 23 <| .nil) [(23, .string s), (22, .int .i64 1), (19, .agg #[.int .i64 1, .slice (some ⟨b10, 0, none⟩) 1 1, .int .i64 0, .nilFunc]), (6, .pointer (some ⟨b24, 0, none⟩)), (5, .int .i64 0), (4, .int .i64 0), (1, .string s)] h31 (fun _ hS => Kw.nil hS) fun q34 h35 => ?_
  clear h31
  refine sC 1 20 h35 gok_none (c69 1 0 .nilFunc sp2 (some ⟨b10, 0, none⟩) 1 w33 (by decide) (by decide) (hr17.below hD32.bel)) ?_
  rintro _ w40 ⟨v45, rfl, ho43, hb41⟩
  obtain ⟨A38, cp39, rfl, -, hr44⟩ := own_rd ho43
  have hB42 := hD32.call hb41
  refine ⟨_, rfl, hB42, fun q36 h37 => ?_⟩
  clear h35 hD32 hb41
  refine sC 5 24 h37 gok_none (c68 (clsOf sp2) A38 cp39 1 s w40 (by decide) cls_ok2 hr44) ?_
  rintro _ w49 ⟨at'48, rfl, hb50⟩
  have hB51 := hB42.call hb50
  refine ⟨_, rfl, hB51, fun q46 h47 => ?_⟩
  clear h37 hB42 hb50
  refine d0 (.C 6 18 <| .E 7 25 (.int .i64 at'48) <| .E 8 26 (.int .i64 (pfxE (clsOf sp2) 1 s)) <| .C 9 7 <| .C 10 8 <| .nil) [(8, .int .i64 (pfxE (clsOf sp2) 1 s)), (7, .int .i64 at'48), (6, .pointer (some ⟨b24, 0, none⟩)), (5, .int .i64 0), (4, .int .i64 0), (1, .string s)] h47 (fun _ hS => Kw.nil hS) fun q52 h53 => ?_
  clear h47
  refine wpO_end ?_
  refine then_n ?_
  refine kS ?_
  refine rp 2 ?_
  refine b0 (.C 0 27 <| .E 1 28 (.bool (pfxE (clsOf sp2) 1 s != (0 : Int))) <| .nil) [(28, .bool (pfxE (clsOf sp2) 1 s != (0 : Int))), (8, .int .i64 (pfxE (clsOf sp2) 1 s)), (7, .int .i64 at'48), (6, .pointer (some ⟨b24, 0, none⟩)), (5, .int .i64 0), (4, .int .i64 0), (1, .string s)] h53 (Kw.nil hB51) fun q54 h55 => ?_
  clear h53
  refine wpO_end ?_
  refine then_n ?_
  refine kC 28 (pfxE (clsOf sp2) 1 s != (0 : Int)) h55 (fun hc56 => ?_) (fun hc56 => ?_)
  ·
    refine kS ?_
    refine rp 4 ?_
    refine b0 (.C 0 29 <| .C 1 30 <| .C 2 4 <| .C 3 5 <| .nil) [(5, .int .i64 (pfxE (clsOf sp2) 1 s)), (4, .int .i64 at'48), (6, .pointer (some ⟨b24, 0, none⟩)), (1, .string s)] h55 (Kw.nil hB51) fun q57 h58 => ?_
    clear h55
    refine wpO_end ?_
    refine then_n ?_
    refine c_ret (by kernel_rfl) ?_
    refine then_r ?_
    refine ret2 (t := 4) (u := 5) (v := .int .i64 at'48) (v' := .int .i64 (pfxE (clsOf sp2) 1 s)) h58 (by kernel_rfl) (by kernel_rfl) (by kernel_rfl) ?_
    exact ⟨_, _, rfl, rfl, (hbl18.trans (hB51.bel.mono hbl18.size))⟩
  refine c_skip (by kernel_rfl) ?_
  refine then_n ?_
  refine kS ?_
  refine kS ?_
  have hD59 := hB51.drew
  refine rd (Bx w12 [(b24, .cells #[.int .i64 1, .slice (some ⟨b10, 0, none⟩) 1 1, .int .i64 0, .nilFunc] 179 (0, 0))]) 17 [⟨0, true, 0, 64, 2147483648⟩, ⟨1, true, 1, 2147483648, 4294967296⟩, ⟨2, true, 2, 4294967296, 8589934592⟩, ⟨3, true, 4, 8589934592, 17179869184⟩, ⟨4, true, 8, 17179869248, 34359738368⟩, ⟨5, true, 24, 51539607552, 68719476736⟩, ⟨6, true, 8, 17179869186, 137438953472⟩, ⟨7, true, 8, 17179869248, 274877906944⟩, ⟨8, true, 136, 292057776128, 549755813888⟩, ⟨9, true, 328, 704374636544, 1099511627776⟩, ⟨11, true, 8, 17179869186, 4398046511104⟩, ⟨12, true, 8, 17179869248, 8796093022208⟩, ⟨13, true, 4104, 8813272891392, 17592186044416⟩, ⟨14, true, 10248, 22007412424704, 35184372088832⟩, ⟨10, false, 552, 1185410973696, 2199023255552⟩, ⟨15, true, 17416, 37400575213568, 70368744177664⟩, ⟨16, true, 32776, 70385924046848, 140737488355328⟩] hD59 ?_
  generalize World.drew w49 = w60 at hD59 ⊢
  refine d1 34 (rfl : false = false) (.C 0 31 <| .L 1 32 0 3 <| .E 2 33 (.bool false) <| .C 3 34 <| .K 4 35 <| .K 5 36 <| .K 6 37 <| .K 7 38 <| .K 8 39 <| .K 9 40 <| .K 11 42 <| .K 12 43 <| .K 13 44 <| .K 14 45 <| .nil) [(45, undef), (40, undef), (36, undef), (34, .bool false), (6, .pointer (some ⟨b24, 0, none⟩)), (5, .int .i64 0), (4, .int .i64 0)] h55 (fun _ hS => Kw.nil hS) fun q61 h62 => ?_
  clear h55
  refine kE 10 41 (3, true) (g3 34 (rfl : false = false)) h62 hD59 fun q63 h64 => ?_
  clear h62
  refine d1 34 (rfl : false = false) (.K 15 46 <| .E 16 47 (.bool false) <| .nil) [(47, .bool false), (6, .pointer (some ⟨b24, 0, none⟩)), (5, .int .i64 0), (4, .int .i64 0)] h64 (fun _ hS => Kw.nil hS) fun q65 h66 => ?_
  clear h64
  refine wpO_end ?_
  refine then_n ?_
  refine kC 47 false h66 (fun e67 => Bool.noConfusion (e67.symm.trans (rfl))) (fun _ => ?_)
  refine c_skip (by kernel_rfl) ?_
  refine then_n ?_
  refine kS ?_
  refine rp 2 ?_
  refine b0 (.C 0 4 <| .C 1 5 <| .nil) [(5, .int .i64 0), (4, .int .i64 0)] h66 (Kw.nil hD59) fun q68 h69 => ?_
  clear h66
  refine wpO_end ?_
  refine then_n ?_
  refine c_ret (by kernel_rfl) ?_
  refine ret2 (t := 4) (u := 5) (v := .int .i64 0) (v' := .int .i64 0) h69 (by kernel_rfl) (by kernel_rfl) (by kernel_rfl) ?_
  exact ⟨_, _, rfl, none_p _ hc56, (hbl18.trans (hD59.bel.mono hbl18.size))⟩

set_option maxHeartbeats 4000000 in
set_option maxRecDepth 20000 in
theorem c41_0 (s : ByteArray) (w : World) : Calls Tryz.prog 56 #[.int .i64 0, .string s] w fun e w' => e = .returned (.bool (isinB s)) ∧ Below w.heap.size w w' := by
  refine enter Tryz.func56 (by kernel_rfl) ?_ (by kernel_rfl)
  intro q0 h0
  replace h0 := h0.conv (l' := [(0, .int .i64 0), (1, .string s)]) rfl
  have hB := Bx.refl w
  refine kS ?_
  refine rp 1 ?_
  refine b0 (.C 0 4 <| .nil) [(4, .bool false), (0, .int .i64 0), (1, .string s)] h0 (Kw.nil hB) fun q1 h2 => ?_
  clear h0
  refine wpO_end ?_
  refine then_n ?_
  refine kS ?_
  refine rp 8 ?_
  refine b0 (.C 0 8 <| .C 1 9 <| .nil) [(9, .string s), (8, .int .i64 0), (4, .bool false)] h2 (Kw.nil hB) fun q3 h4 => ?_
  clear h2
  refine sC 2 10 h4 gok_none (c61_0 s w) ?_
  rintro _ w9 ⟨at'7, E8, rfl, hE12, hb10⟩
  have hB11 := hB.call hb10
  refine ⟨_, rfl, trivial, fun q5 h6 => ?_⟩
  clear h4 hB hb10
  refine b0 (.C 3 7 <| .E 4 11 (.int .i64 at'7) <| .E 5 12 (.int .i64 E8) <| .C 6 5 <| .C 7 6 <| .nil) [(6, .int .i64 E8), (4, .bool false)] h6 (Kw.nil hB11) fun q13 h14 => ?_
  clear h6
  refine wpO_end ?_
  refine then_n ?_
  refine kS ?_
  refine rp 3 ?_
  refine b0 (.C 0 13 <| .E 1 14 (.bool (E8 == (0 : Int))) <| .C 2 4 <| .nil) [(4, .bool (E8 == (0 : Int)))] h14 (Kw.nil hB11) fun q15 h16 => ?_
  clear h14
  refine wpO_end ?_
  refine then_n ?_
  refine c_ret (by kernel_rfl) ?_
  refine ret1 (t := 4) (v := .bool (E8 == (0 : Int))) h16 (by kernel_rfl) (by kernel_rfl) ?_
  exact ⟨ret_eq (congrArg Value.bool hE12), hB11.bel⟩

set_option maxHeartbeats 4000000 in
set_option maxRecDepth 20000 in
theorem c41_1 (s : ByteArray) (w : World) : Calls Tryz.prog 56 #[.int .i64 1, .string s] w fun e w' => e = .returned (.bool (memB s)) ∧ Below w.heap.size w w' := by
  refine enter Tryz.func56 (by kernel_rfl) ?_ (by kernel_rfl)
  intro q0 h0
  replace h0 := h0.conv (l' := [(0, .int .i64 1), (1, .string s)]) rfl
  have hB := Bx.refl w
  refine kS ?_
  refine rp 1 ?_
  refine b0 (.C 0 4 <| .nil) [(4, .bool false), (0, .int .i64 1), (1, .string s)] h0 (Kw.nil hB) fun q1 h2 => ?_
  clear h0
  refine wpO_end ?_
  refine then_n ?_
  refine kS ?_
  refine rp 8 ?_
  refine b0 (.C 0 8 <| .C 1 9 <| .nil) [(9, .string s), (8, .int .i64 1), (4, .bool false)] h2 (Kw.nil hB) fun q3 h4 => ?_
  clear h2
  refine sC 2 10 h4 gok_none (c61_1 s w) ?_
  rintro _ w9 ⟨at'7, E8, rfl, hE12, hb10⟩
  have hB11 := hB.call hb10
  refine ⟨_, rfl, trivial, fun q5 h6 => ?_⟩
  clear h4 hB hb10
  refine b0 (.C 3 7 <| .E 4 11 (.int .i64 at'7) <| .E 5 12 (.int .i64 E8) <| .C 6 5 <| .C 7 6 <| .nil) [(6, .int .i64 E8), (4, .bool false)] h6 (Kw.nil hB11) fun q13 h14 => ?_
  clear h6
  refine wpO_end ?_
  refine then_n ?_
  refine kS ?_
  refine rp 3 ?_
  refine b0 (.C 0 13 <| .E 1 14 (.bool (E8 == (0 : Int))) <| .C 2 4 <| .nil) [(4, .bool (E8 == (0 : Int)))] h14 (Kw.nil hB11) fun q15 h16 => ?_
  clear h14
  refine wpO_end ?_
  refine then_n ?_
  refine c_ret (by kernel_rfl) ?_
  refine ret1 (t := 4) (v := .bool (E8 == (0 : Int))) h16 (by kernel_rfl) (by kernel_rfl) ?_
  exact ⟨ret_eq (congrArg Value.bool hE12), hB11.bel⟩

set_option maxHeartbeats 4000000 in
set_option maxRecDepth 20000 in
theorem c41_2 (s : ByteArray) (w : World) : Calls Tryz.prog 56 #[.int .i64 2, .string s] w fun e w' => e = .returned (.bool (rfB s)) ∧ Below w.heap.size w w' := by
  refine enter Tryz.func56 (by kernel_rfl) ?_ (by kernel_rfl)
  intro q0 h0
  replace h0 := h0.conv (l' := [(0, .int .i64 2), (1, .string s)]) rfl
  have hB := Bx.refl w
  refine kS ?_
  refine rp 1 ?_
  refine b0 (.C 0 4 <| .nil) [(4, .bool false), (0, .int .i64 2), (1, .string s)] h0 (Kw.nil hB) fun q1 h2 => ?_
  clear h0
  refine wpO_end ?_
  refine then_n ?_
  refine kS ?_
  refine rp 8 ?_
  refine b0 (.C 0 8 <| .C 1 9 <| .nil) [(9, .string s), (8, .int .i64 2), (4, .bool false)] h2 (Kw.nil hB) fun q3 h4 => ?_
  clear h2
  refine sC 2 10 h4 gok_none (c61_2 s w) ?_
  rintro _ w9 ⟨at'7, E8, rfl, hE12, hb10⟩
  have hB11 := hB.call hb10
  refine ⟨_, rfl, trivial, fun q5 h6 => ?_⟩
  clear h4 hB hb10
  refine b0 (.C 3 7 <| .E 4 11 (.int .i64 at'7) <| .E 5 12 (.int .i64 E8) <| .C 6 5 <| .C 7 6 <| .nil) [(6, .int .i64 E8), (4, .bool false)] h6 (Kw.nil hB11) fun q13 h14 => ?_
  clear h6
  refine wpO_end ?_
  refine then_n ?_
  refine kS ?_
  refine rp 3 ?_
  refine b0 (.C 0 13 <| .E 1 14 (.bool (E8 == (0 : Int))) <| .C 2 4 <| .nil) [(4, .bool (E8 == (0 : Int)))] h14 (Kw.nil hB11) fun q15 h16 => ?_
  clear h14
  refine wpO_end ?_
  refine then_n ?_
  refine c_ret (by kernel_rfl) ?_
  refine ret1 (t := 4) (v := .bool (E8 == (0 : Int))) h16 (by kernel_rfl) (by kernel_rfl) ?_
  exact ⟨ret_eq (congrArg Value.bool hE12), hB11.bel⟩

end Go.Proofs.YtljegdokbifoiaaGreatDoor.Af
