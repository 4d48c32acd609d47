/- Classes of characters. No condition. -/
import Derived.Test.YtljegdokbifoiaaDoorIdp
namespace Go.Proofs.YtljegdokbifoiaaDoor.Af
open Go.RowKit
set_option maxHeartbeats 4000000 in
set_option maxRecDepth 20000 in
theorem c86 (c : Int) (w : World) : Calls Tryd.prog 86 #[.int .u8 c] w fun e w' => e = .returned (.bool (letterB c)) ∧ Below w.heap.size w w' := by
  refine enter Tryd.func86 (by kernel_rfl) ?_ (by kernel_rfl)
  intro q0 h0
  replace h0 := h0.conv (l' := [(0, .int .u8 c)]) rfl
  have hB := Bx.refl w
  refine kS ?_
  refine rp 1 ?_
  refine b0 (.C 0 2 <| .nil) [(2, .bool false), (0, .int .u8 c)] h0 (Kw.nil hB) fun q1 h2 => ?_
  clear h0
  refine wpO_end ?_
  refine then_n ?_
  refine kS ?_
  refine rp 7 ?_
  refine b0 (.C 0 3 <| .E 1 4 (.bool (decide ((65 : Int) ≤ c))) <| .C 2 5 <| .J 5 8 5 7 true (decide ((65 : Int) ≤ c)) (decide (c ≤ (90 : Int))) (.C 3 6 <| .E 4 7 (.bool (decide (c ≤ (90 : Int)))) <| .nil) <| .C 6 2 <| .nil) [(2, .bool ((decide ((65 : Int) ≤ c)) && (decide (c ≤ (90 : Int)))))] h2 (Kw.nil hB) fun q3 h4 => ?_
  clear h2
  refine wpO_end ?_
  refine then_n ?_
  refine c_ret (by kernel_rfl) ?_
  refine ret1 (t := 2) (v := .bool ((decide ((65 : Int) ≤ c)) && (decide (c ≤ (90 : Int))))) h4 (by kernel_rfl) (by kernel_rfl) ?_
  exact ⟨ret_eq (rfl), hB.bel⟩

set_option maxHeartbeats 4000000 in
set_option maxRecDepth 20000 in
theorem c88 (c : Int) (w : World) : Calls Tryd.prog 88 #[.int .u8 c] w fun e w' => e = .returned (.bool (digitB c)) ∧ Below w.heap.size w w' := by
  refine enter Tryd.func88 (by kernel_rfl) ?_ (by kernel_rfl)
  intro q0 h0
  replace h0 := h0.conv (l' := [(0, .int .u8 c)]) rfl
  have hB := Bx.refl w
  refine kS ?_
  refine rp 1 ?_
  refine b0 (.C 0 2 <| .nil) [(2, .bool false), (0, .int .u8 c)] h0 (Kw.nil hB) fun q1 h2 => ?_
  clear h0
  refine wpO_end ?_
  refine then_n ?_
  refine kS ?_
  refine rp 7 ?_
  refine b0 (.C 0 3 <| .E 1 4 (.bool (decide ((48 : Int) ≤ c))) <| .C 2 5 <| .J 5 8 5 7 true (decide ((48 : Int) ≤ c)) (decide (c ≤ (57 : Int))) (.C 3 6 <| .E 4 7 (.bool (decide (c ≤ (57 : Int)))) <| .nil) <| .C 6 2 <| .nil) [(2, .bool ((decide ((48 : Int) ≤ c)) && (decide (c ≤ (57 : Int)))))] h2 (Kw.nil hB) fun q3 h4 => ?_
  clear h2
  refine wpO_end ?_
  refine then_n ?_
  refine c_ret (by kernel_rfl) ?_
  refine ret1 (t := 2) (v := .bool ((decide ((48 : Int) ≤ c)) && (decide (c ≤ (57 : Int))))) h4 (by kernel_rfl) (by kernel_rfl) ?_
  exact ⟨ret_eq (rfl), hB.bel⟩

set_option maxHeartbeats 4000000 in
set_option maxRecDepth 20000 in
theorem c87 (c : Int) (w : World) : Calls Tryd.prog 87 #[.int .u8 c] w fun e w' => e = .returned (.bool (alnumB c)) ∧ Below w.heap.size w w' := by
  refine enter Tryd.func87 (by kernel_rfl) ?_ (by kernel_rfl)
  intro q0 h0
  replace h0 := h0.conv (l' := [(0, .int .u8 c)]) rfl
  have hB := Bx.refl w
  refine kS ?_
  refine rp 1 ?_
  refine b0 (.C 0 2 <| .nil) [(2, .bool false), (0, .int .u8 c)] h0 (Kw.nil hB) fun q1 h2 => ?_
  clear h0
  refine wpO_end ?_
  refine then_n ?_
  refine kS ?_
  refine rp 7 ?_
  refine b0 (.C 0 3 <| .nil) [(3, .int .u8 c), (2, .bool false), (0, .int .u8 c)] h2 (Kw.nil hB) fun q3 h4 => ?_
  clear h2
  refine sC 1 4 h4 gok_none (c86 c w) ?_
  rintro _ w7 ⟨rfl, hb8⟩
  have hB9 := hB.call hb8
  refine ⟨_, rfl, trivial, fun q5 h6 => ?_⟩
  clear h4 hB hb8
  refine b0 (.C 2 5 <| .nil) [(5, .bool (letterB c)), (2, .bool false), (0, .int .u8 c)] h6 (Kw.nil hB9) fun q10 h11 => ?_
  clear h6
  refine wpO_cut [(3, false), (4, false), (5, false)] [(6, false)] (fun qa qw => Fr 9 [(8, .bool ((letterB c) || (digitB c))), (2, .bool false)] qa ∧ Bx w [] qw) ?_ ?_
  ·
    rcases Bool.eq_false_or_eq_true (letterB c) with hc12 | hc12
    ·
      refine b1 5 hc12 (.K 3 6 <| .K 4 7 <| .nil) [(7, undef), (5, .bool (letterB c)), (2, .bool false)] h11 (Kw.nil hB9) fun q13 h14 => ?_
      clear h11
      refine eE 5 8 (.pick (.tmp 5) (.const (.bool true)) (.tmp 7)) 4 (.bool ((letterB c) || (digitB c))) h14 (hr := r_or (c := letterB c) (d := (digitB c)) (by kernel_rfl) (fun e17 => Bool.noConfusion (e17.symm.trans hc12))) fun q15 h16 => ?_
      clear h14
      exact ⟨h16.keep _ ⟨rfl, rfl, trivial⟩, hB9⟩
    ·
      refine b1 5 hc12 (.C 3 6 <| .nil) [(6, .int .u8 c), (5, .bool (letterB c)), (2, .bool false)] h11 (Kw.nil hB9) fun q18 h19 => ?_
      clear h11
      refine sC 4 7 (g := (some (2, false))) h19 (g2 5 hc12) (c88 c w7) ?_
      rintro _ w22 ⟨rfl, hb23⟩
      have hB24 := hB9.call hb23
      refine ⟨_, rfl, trivial, fun q20 h21 => ?_⟩
      clear h19 hB9 hb23
      refine eE 5 8 (.pick (.tmp 5) (.const (.bool true)) (.tmp 7)) 4 (.bool ((letterB c) || (digitB c))) h21 (hr := r_or (c := letterB c) (d := (digitB c)) (by kernel_rfl) (fun _ => by kernel_rfl)) fun q25 h26 => ?_
      clear h21
      exact ⟨h26.keep _ ⟨rfl, rfl, trivial⟩, hB24⟩
  rintro q27 w28 ⟨h29, hB30⟩
  refine b0 (.C 6 2 <| .nil) [(2, .bool ((letterB c) || (digitB c)))] h29 (Kw.nil hB30) fun q31 h32 => ?_
  clear h29
  refine wpO_end ?_
  refine then_n ?_
  refine c_ret (by kernel_rfl) ?_
  refine ret1 (t := 2) (v := .bool ((letterB c) || (digitB c))) h32 (by kernel_rfl) (by kernel_rfl) ?_
  exact ⟨ret_eq (rfl), hB30.bel⟩

set_option maxHeartbeats 4000000 in
set_option maxRecDepth 20000 in
theorem c90 (c : Int) (w : World) : Calls Tryd.prog 90 #[.int .u8 c] w fun e w' => e = .returned (.bool (refB c)) ∧ Below w.heap.size w w' := by
  refine enter Tryd.func90 (by kernel_rfl) ?_ (by kernel_rfl)
  intro q0 h0
  replace h0 := h0.conv (l' := [(0, .int .u8 c)]) rfl
  have hB := Bx.refl w
  refine kS ?_
  refine rp 1 ?_
  refine b0 (.C 0 2 <| .nil) [(2, .bool false), (0, .int .u8 c)] h0 (Kw.nil hB) fun q1 h2 => ?_
  clear h0
  refine wpO_end ?_
  refine then_n ?_
  refine kS ?_
  refine rp 7 ?_
  refine b0 (.C 0 3 <| .nil) [(3, .int .u8 c), (2, .bool false), (0, .int .u8 c)] h2 (Kw.nil hB) fun q3 h4 => ?_
  clear h2
  refine sC 1 4 h4 gok_none (c87 c w) ?_
  rintro _ w7 ⟨rfl, hb8⟩
  have hB9 := hB.call hb8
  refine ⟨_, rfl, trivial, fun q5 h6 => ?_⟩
  clear h4 hB hb8
  refine b0 (.C 2 5 <| .J 5 8 5 7 false (alnumB c) (c == (45 : Int)) (.C 3 6 <| .E 4 7 (.bool (c == (45 : Int))) <| .nil) <| .C 6 2 <| .nil) [(2, .bool ((alnumB c) || (c == (45 : Int))))] h6 (Kw.nil hB9) fun q10 h11 => ?_
  clear h6
  refine wpO_end ?_
  refine then_n ?_
  refine c_ret (by kernel_rfl) ?_
  refine ret1 (t := 2) (v := .bool ((alnumB c) || (c == (45 : Int)))) h11 (by kernel_rfl) (by kernel_rfl) ?_
  exact ⟨ret_eq (rfl), hB9.bel⟩

set_option maxHeartbeats 4000000 in
set_option maxRecDepth 20000 in
theorem c92 (c : Int) (w : World) : Calls Tryd.prog 92 #[.int .u8 c] w fun e w' => e = .returned (.bool (letterB c)) ∧ Below w.heap.size w w' := by
  refine enter Tryd.func92 (by kernel_rfl) ?_ (by kernel_rfl)
  intro q0 h0
  replace h0 := h0.conv (l' := [(0, .int .u8 c)]) rfl
  have hB := Bx.refl w
  refine kS ?_
  refine rp 1 ?_
  refine b0 (.C 0 2 <| .nil) [(2, .bool false), (0, .int .u8 c)] h0 (Kw.nil hB) fun q1 h2 => ?_
  clear h0
  refine wpO_end ?_
  refine then_n ?_
  refine kS ?_
  refine rp 7 ?_
  refine b0 (.C 0 3 <| .E 1 4 (.bool (decide ((65 : Int) ≤ c))) <| .C 2 5 <| .J 5 8 5 7 true (decide ((65 : Int) ≤ c)) (decide (c ≤ (90 : Int))) (.C 3 6 <| .E 4 7 (.bool (decide (c ≤ (90 : Int)))) <| .nil) <| .C 6 2 <| .nil) [(2, .bool ((decide ((65 : Int) ≤ c)) && (decide (c ≤ (90 : Int)))))] h2 (Kw.nil hB) fun q3 h4 => ?_
  clear h2
  refine wpO_end ?_
  refine then_n ?_
  refine c_ret (by kernel_rfl) ?_
  refine ret1 (t := 2) (v := .bool ((decide ((65 : Int) ≤ c)) && (decide (c ≤ (90 : Int))))) h4 (by kernel_rfl) (by kernel_rfl) ?_
  exact ⟨ret_eq (rfl), hB.bel⟩

set_option maxHeartbeats 4000000 in
set_option maxRecDepth 20000 in
theorem c93 (c : Int) (w : World) : Calls Tryd.prog 93 #[.int .u8 c] w fun e w' => e = .returned (.bool (digitB c)) ∧ Below w.heap.size w w' := by
  refine enter Tryd.func93 (by kernel_rfl) ?_ (by kernel_rfl)
  intro q0 h0
  replace h0 := h0.conv (l' := [(0, .int .u8 c)]) rfl
  have hB := Bx.refl w
  refine kS ?_
  refine rp 1 ?_
  refine b0 (.C 0 2 <| .nil) [(2, .bool false), (0, .int .u8 c)] h0 (Kw.nil hB) fun q1 h2 => ?_
  clear h0
  refine wpO_end ?_
  refine then_n ?_
  refine kS ?_
  refine rp 7 ?_
  refine b0 (.C 0 3 <| .E 1 4 (.bool (decide ((48 : Int) ≤ c))) <| .C 2 5 <| .J 5 8 5 7 true (decide ((48 : Int) ≤ c)) (decide (c ≤ (57 : Int))) (.C 3 6 <| .E 4 7 (.bool (decide (c ≤ (57 : Int)))) <| .nil) <| .C 6 2 <| .nil) [(2, .bool ((decide ((48 : Int) ≤ c)) && (decide (c ≤ (57 : Int)))))] h2 (Kw.nil hB) fun q3 h4 => ?_
  clear h2
  refine wpO_end ?_
  refine then_n ?_
  refine c_ret (by kernel_rfl) ?_
  refine ret1 (t := 2) (v := .bool ((decide ((48 : Int) ≤ c)) && (decide (c ≤ (57 : Int))))) h4 (by kernel_rfl) (by kernel_rfl) ?_
  exact ⟨ret_eq (rfl), hB.bel⟩

theorem cCls (g : Nat) (hg : g = 86 ∨ g = 87 ∨ g = 88 ∨ g = 90) (c : Int) (w : World) : Calls Tryd.prog g #[.int .u8 c] w fun e w' => e = .returned (.bool (clsB g c)) ∧ Below w.heap.size w w' := by
  rcases hg with rfl | rfl | rfl | rfl
  · exact c86 c w
  · exact c87 c w
  · exact c88 c w
  · exact c90 c w

end Go.Proofs.YtljegdokbifoiaaDoor.Af
