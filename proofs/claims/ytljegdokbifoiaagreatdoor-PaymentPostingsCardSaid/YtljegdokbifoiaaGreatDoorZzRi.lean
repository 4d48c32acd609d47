/- The reference's identifiers: characters, lengths, check digits. Short strings. The reference's check of identifiers. No condition. -/
import Derived.Test.YtljegdokbifoiaaGreatDoorZzIrp
namespace Go.Proofs.YtljegdokbifoiaaGreatDoor.Af
open Go.RowKit
set_option maxHeartbeats 4000000 in
set_option maxRecDepth 20000 in
theorem c71_0 (j c : Int) (w : World) : Calls Tryz.prog 115 #[.int .i64 0, .int .i64 j, .int .u8 c] w fun e w' => e = .returned (.bool (mayB 0 j c)) ∧ Below w.heap.size w w' := by
  refine enter Tryz.func115 (by kernel_rfl) ?_ (by kernel_rfl)
  intro q0 h0
  replace h0 := h0.conv (l' := [(0, .int .i64 0), (1, .int .i64 j), (2, .int .u8 c)]) rfl
  have hB := Bx.refl w
  refine kS ?_
  refine rp 1 ?_
  refine b0 (.C 0 6 <| .nil) [(6, .bool false), (0, .int .i64 0), (1, .int .i64 j), (2, .int .u8 c)] h0 (Kw.nil hB) fun q1 h2 => ?_
  clear h0
  refine wpO_end ?_
  refine then_n ?_
  refine kS ?_
  refine kS ?_
  refine rp 1 ?_
  refine b0 (.C 0 7 <| .nil) [(7, .int .i64 0), (6, .bool false), (1, .int .i64 j), (2, .int .u8 c)] h2 (Kw.nil hB) fun q3 h4 => ?_
  clear h2
  refine wpO_end ?_
  refine then_n ?_
  refine c_block 0 (by kernel_rfl) ?_
  refine kS ?_
  refine rp 2 ?_
  refine b0 (.E 0 9 (.bool true) <| .C 1 8 <| .nil) [(8, .bool true), (7, .int .i64 0), (6, .bool false), (1, .int .i64 j), (2, .int .u8 c)] h4 (Kw.nil hB) fun q5 h6 => ?_
  clear h4
  refine wpO_end ?_
  refine then_n ?_
  refine kC 8 true h6 (fun _ => ?_) (fun e7 => Bool.noConfusion (e7.symm.trans (rfl)))
  refine kS ?_
  refine rp 31 ?_
  refine b0 (.C 0 10 <| .E 1 11 (.bool (decide (j < (2 : Int)))) <| .C 2 12 <| .nil) [(12, .bool (decide (j < (2 : Int)))), (7, .int .i64 0), (6, .bool false), (1, .int .i64 j), (2, .int .u8 c)] h6 (Kw.nil hB) fun q8 h9 => ?_
  clear h6
  refine wpO_cut [(3, false), (4, false), (5, false)] [(6, false), (7, false), (8, false), (9, false), (10, false), (11, false), (12, false), (13, false), (14, false), (15, false), (16, false), (17, false), (18, false), (19, false), (20, false), (21, false), (22, false), (23, false), (24, false), (25, false), (26, false), (27, false), (28, false), (29, false), (30, false)] (fun qa qw => Fr 74 [(15, .bool ((decide (j < (2 : Int))) && (letterB c))), (7, .int .i64 0), (6, .bool false), (1, .int .i64 j), (2, .int .u8 c)] qa ∧ Bx w [] qw) ?_ ?_
  ·
    rcases Bool.eq_false_or_eq_true (decide (j < (2 : Int))) with hc10 | hc10
    ·
      refine b1 12 hc10 (.C 3 13 <| .nil) [(13, .int .u8 c), (12, .bool (decide (j < (2 : Int)))), (7, .int .i64 0), (6, .bool false), (1, .int .i64 j), (2, .int .u8 c)] h9 (Kw.nil hB) fun q11 h12 => ?_
      clear h9
      refine sC 4 14 (g := (some (2, true))) h12 (g1 12 hc10) (c92 c w) ?_
      rintro _ w15 ⟨rfl, hb16⟩
      have hB17 := hB.call hb16
      refine ⟨_, rfl, trivial, fun q13 h14 => ?_⟩
      clear h12 hB hb16
      refine eE 5 15 (.pick (.tmp 12) (.tmp 14) (.const (.bool false))) 4 (.bool ((decide (j < (2 : Int))) && (letterB c))) h14 (hr := r_and (c := decide (j < (2 : Int))) (d := (letterB c)) (by kernel_rfl) (fun _ => by kernel_rfl)) fun q18 h19 => ?_
      clear h14
      exact ⟨h19.keep _ ⟨rfl, rfl, rfl, rfl, rfl, trivial⟩, hB17⟩
    ·
      refine b1 12 hc10 (.K 3 13 <| .K 4 14 <| .nil) [(14, undef), (12, .bool (decide (j < (2 : Int)))), (7, .int .i64 0), (6, .bool false), (1, .int .i64 j), (2, .int .u8 c)] h9 (Kw.nil hB) fun q20 h21 => ?_
      clear h9
      refine eE 5 15 (.pick (.tmp 12) (.tmp 14) (.const (.bool false))) 4 (.bool ((decide (j < (2 : Int))) && (letterB c))) h21 (hr := r_and (c := decide (j < (2 : Int))) (d := (letterB c)) (by kernel_rfl) (fun e24 => Bool.noConfusion (e24.symm.trans hc10))) fun q22 h23 => ?_
      clear h21
      exact ⟨h23.keep _ ⟨rfl, rfl, rfl, rfl, rfl, trivial⟩, hB⟩
  rintro q25 w26 ⟨h27, hB28⟩
  refine b0 (.C 6 16 <| .nil) [(16, .bool ((decide (j < (2 : Int))) && (letterB c))), (7, .int .i64 0), (6, .bool false), (1, .int .i64 j), (2, .int .u8 c)] h27 (Kw.nil hB28) fun q29 h30 => ?_
  clear h27
  refine wpO_cut [(7, false), (8, false), (9, false), (10, false), (11, false), (12, false), (13, false), (14, false), (15, false), (16, false), (17, false), (18, false), (19, false), (20, false), (21, false)] [(22, false), (23, false), (24, false), (25, false), (26, false), (27, false), (28, false), (29, false), (30, false)] (fun qa qw => Fr 74 [(31, .bool (((decide (j < (2 : Int))) && (letterB c)) || (((decide ((2 : Int) ≤ j)) && (decide (j < (11 : Int)))) && ((letterB c) || (digitB c))))), (7, .int .i64 0), (6, .bool false), (1, .int .i64 j), (2, .int .u8 c)] qa ∧ Bx w [] qw) ?_ ?_
  ·
    rcases Bool.eq_false_or_eq_true ((decide (j < (2 : Int))) && (letterB c)) with hc31 | hc31
    ·
      refine b1 16 hc31 (.K 7 17 <| .K 8 18 <| .K 9 19 <| .K 10 20 <| .K 11 21 <| .K 12 22 <| .K 13 23 <| .K 14 24 <| .K 15 25 <| .K 16 26 <| .K 17 27 <| .K 18 28 <| .K 19 29 <| .K 20 30 <| .nil) [(30, undef), (16, .bool ((decide (j < (2 : Int))) && (letterB c))), (7, .int .i64 0), (6, .bool false), (1, .int .i64 j), (2, .int .u8 c)] h30 (Kw.nil hB28) fun q32 h33 => ?_
      clear h30
      refine eE 21 31 (.pick (.tmp 16) (.const (.bool true)) (.tmp 30)) 4 (.bool (((decide (j < (2 : Int))) && (letterB c)) || (((decide ((2 : Int) ≤ j)) && (decide (j < (11 : Int)))) && ((letterB c) || (digitB c))))) h33 (hr := r_or (c := (decide (j < (2 : Int))) && (letterB c)) (d := (((decide ((2 : Int) ≤ j)) && (decide (j < (11 : Int)))) && ((letterB c) || (digitB c)))) (by kernel_rfl) (fun e36 => Bool.noConfusion (e36.symm.trans hc31))) fun q34 h35 => ?_
      clear h33
      exact ⟨h35.keep _ ⟨rfl, rfl, rfl, rfl, rfl, trivial⟩, hB28⟩
    ·
      refine b1 16 hc31 (.C 7 17 <| .E 8 18 (.bool (decide ((2 : Int) ≤ j))) <| .C 9 19 <| .J 12 22 19 21 true (decide ((2 : Int) ≤ j)) (decide (j < (11 : Int))) (.C 10 20 <| .E 11 21 (.bool (decide (j < (11 : Int)))) <| .nil) <| .C 13 23 <| .nil) [(23, .bool ((decide ((2 : Int) ≤ j)) && (decide (j < (11 : Int))))), (16, .bool ((decide (j < (2 : Int))) && (letterB c))), (7, .int .i64 0), (6, .bool false), (1, .int .i64 j), (2, .int .u8 c)] h30 (Kw.nil hB28) fun q37 h38 => ?_
      clear h30
      refine wpO_cut [(14, false), (15, false), (16, false), (17, false), (18, false), (19, false), (20, false)] [(21, false)] (fun qa qw => Fr 74 [(30, .bool (((decide ((2 : Int) ≤ j)) && (decide (j < (11 : Int)))) && ((letterB c) || (digitB c)))), (16, .bool ((decide (j < (2 : Int))) && (letterB c))), (7, .int .i64 0), (6, .bool false), (1, .int .i64 j), (2, .int .u8 c)] qa ∧ Bx w [] qw) ?_ ?_
      ·
        rcases Bool.eq_false_or_eq_true ((decide ((2 : Int) ≤ j)) && (decide (j < (11 : Int)))) with hc39 | hc39
        ·
          refine b1 23 hc39 (.C 14 24 <| .nil) [(24, .int .u8 c), (23, .bool ((decide ((2 : Int) ≤ j)) && (decide (j < (11 : Int))))), (16, .bool ((decide (j < (2 : Int))) && (letterB c))), (7, .int .i64 0), (6, .bool false), (1, .int .i64 j), (2, .int .u8 c)] h38 (Kw.nil hB28) fun q40 h41 => ?_
          clear h38
          refine sC 15 25 (g := (some (13, true))) h41 (g1 23 hc39) (c92 c w26) ?_
          rintro _ w44 ⟨rfl, hb45⟩
          have hB46 := hB28.call hb45
          refine ⟨_, rfl, trivial, fun q42 h43 => ?_⟩
          clear h41 hB28 hb45
          refine b1 23 hc39 (.C 16 26 <| .nil) [(26, .bool (letterB c)), (23, .bool ((decide ((2 : Int) ≤ j)) && (decide (j < (11 : Int))))), (16, .bool ((decide (j < (2 : Int))) && (letterB c))), (7, .int .i64 0), (6, .bool false), (1, .int .i64 j), (2, .int .u8 c)] h43 (Kw.nil hB46) fun q47 h48 => ?_
          clear h43
          refine wpO_cut [(17, false), (18, false), (19, false)] [(20, false)] (fun qa qw => Fr 74 [(29, .bool ((letterB c) || (digitB c))), (23, .bool ((decide ((2 : Int) ≤ j)) && (decide (j < (11 : Int))))), (16, .bool ((decide (j < (2 : Int))) && (letterB c))), (7, .int .i64 0), (6, .bool false), (1, .int .i64 j), (2, .int .u8 c)] qa ∧ Bx w [] qw) ?_ ?_
          ·
            rcases Bool.eq_false_or_eq_true (letterB c) with hc49 | hc49
            ·
              refine b1 26 hc49 (.K 17 27 <| .K 18 28 <| .nil) [(28, undef), (26, .bool (letterB c)), (23, .bool ((decide ((2 : Int) ≤ j)) && (decide (j < (11 : Int))))), (16, .bool ((decide (j < (2 : Int))) && (letterB c))), (7, .int .i64 0), (6, .bool false), (1, .int .i64 j), (2, .int .u8 c)] h48 (Kw.nil hB46) fun q50 h51 => ?_
              clear h48
              refine eG 19 29 (.pick (.tmp 26) (.const (.bool true)) (.tmp 28)) 4 (13, true) (.bool ((letterB c) || (digitB c))) (g1 23 hc39) h51 (hr := r_or (c := letterB c) (d := (digitB c)) (by kernel_rfl) (fun e54 => Bool.noConfusion (e54.symm.trans hc49))) fun q52 h53 => ?_
              clear h51
              exact ⟨h53.keep _ ⟨rfl, rfl, rfl, rfl, rfl, rfl, rfl, trivial⟩, hB46⟩
            ·
              refine b1 26 hc49 (.C 17 27 <| .nil) [(27, .int .u8 c), (26, .bool (letterB c)), (23, .bool ((decide ((2 : Int) ≤ j)) && (decide (j < (11 : Int))))), (16, .bool ((decide (j < (2 : Int))) && (letterB c))), (7, .int .i64 0), (6, .bool false), (1, .int .i64 j), (2, .int .u8 c)] h48 (Kw.nil hB46) fun q55 h56 => ?_
              clear h48
              refine sC 18 28 (g := (some (16, false))) h56 (g2 26 hc49) (c93 c w44) ?_
              rintro _ w59 ⟨rfl, hb60⟩
              have hB61 := hB46.call hb60
              refine ⟨_, rfl, trivial, fun q57 h58 => ?_⟩
              clear h56 hB46 hb60
              refine eG 19 29 (.pick (.tmp 26) (.const (.bool true)) (.tmp 28)) 4 (13, true) (.bool ((letterB c) || (digitB c))) (g1 23 hc39) h58 (hr := r_or (c := letterB c) (d := (digitB c)) (by kernel_rfl) (fun _ => by kernel_rfl)) fun q62 h63 => ?_
              clear h58
              exact ⟨h63.keep _ ⟨rfl, rfl, rfl, rfl, rfl, rfl, rfl, trivial⟩, hB61⟩
          rintro q64 w65 ⟨h66, hB67⟩
          refine eG 20 30 (.pick (.tmp 23) (.tmp 29) (.const (.bool false))) 4 (6, false) (.bool (((decide ((2 : Int) ≤ j)) && (decide (j < (11 : Int)))) && ((letterB c) || (digitB c)))) (g2 16 hc31) h66 (hr := r_and (c := (decide ((2 : Int) ≤ j)) && (decide (j < (11 : Int)))) (d := ((letterB c) || (digitB c))) (by kernel_rfl) (fun _ => by kernel_rfl)) fun q68 h69 => ?_
          clear h66
          exact ⟨h69.keep _ ⟨rfl, rfl, rfl, rfl, rfl, rfl, trivial⟩, hB67⟩
        ·
          refine b1 23 hc39 (.K 14 24 <| .K 15 25 <| .K 16 26 <| .K 17 27 <| .K 18 28 <| .K 19 29 <| .nil) [(29, undef), (23, .bool ((decide ((2 : Int) ≤ j)) && (decide (j < (11 : Int))))), (16, .bool ((decide (j < (2 : Int))) && (letterB c))), (7, .int .i64 0), (6, .bool false), (1, .int .i64 j), (2, .int .u8 c)] h38 (Kw.nil hB28) fun q70 h71 => ?_
          clear h38
          refine eG 20 30 (.pick (.tmp 23) (.tmp 29) (.const (.bool false))) 4 (6, false) (.bool (((decide ((2 : Int) ≤ j)) && (decide (j < (11 : Int)))) && ((letterB c) || (digitB c)))) (g2 16 hc31) h71 (hr := r_and (c := (decide ((2 : Int) ≤ j)) && (decide (j < (11 : Int)))) (d := ((letterB c) || (digitB c))) (by kernel_rfl) (fun e74 => Bool.noConfusion (e74.symm.trans hc39))) fun q72 h73 => ?_
          clear h71
          exact ⟨h73.keep _ ⟨rfl, rfl, rfl, rfl, rfl, rfl, trivial⟩, hB28⟩
      rintro q75 w76 ⟨h77, hB78⟩
      refine eE 21 31 (.pick (.tmp 16) (.const (.bool true)) (.tmp 30)) 4 (.bool (((decide (j < (2 : Int))) && (letterB c)) || (((decide ((2 : Int) ≤ j)) && (decide (j < (11 : Int)))) && ((letterB c) || (digitB c))))) h77 (hr := r_or (c := (decide (j < (2 : Int))) && (letterB c)) (d := (((decide ((2 : Int) ≤ j)) && (decide (j < (11 : Int)))) && ((letterB c) || (digitB c)))) (by kernel_rfl) (fun _ => by kernel_rfl)) fun q79 h80 => ?_
      clear h77
      exact ⟨h80.keep _ ⟨rfl, rfl, rfl, rfl, rfl, trivial⟩, hB78⟩
  rintro q81 w82 ⟨h83, hB84⟩
  refine b0 (.C 22 32 <| .nil) [(32, .bool (((decide (j < (2 : Int))) && (letterB c)) || (((decide ((2 : Int) ≤ j)) && (decide (j < (11 : Int)))) && ((letterB c) || (digitB c))))), (7, .int .i64 0), (6, .bool false), (1, .int .i64 j), (2, .int .u8 c)] h83 (Kw.nil hB84) fun q85 h86 => ?_
  clear h83
  refine wpO_cut [(23, false), (24, false), (25, false), (26, false), (27, false), (28, false), (29, false)] [(30, false)] (fun qa qw => Fr 74 [(39, .bool ((((decide (j < (2 : Int))) && (letterB c)) || (((decide ((2 : Int) ≤ j)) && (decide (j < (11 : Int)))) && ((letterB c) || (digitB c)))) || ((j == (11 : Int)) && (digitB c)))), (7, .int .i64 0), (6, .bool false), (1, .int .i64 j), (2, .int .u8 c)] qa ∧ Bx w [] qw) ?_ ?_
  ·
    rcases Bool.eq_false_or_eq_true (((decide (j < (2 : Int))) && (letterB c)) || (((decide ((2 : Int) ≤ j)) && (decide (j < (11 : Int)))) && ((letterB c) || (digitB c)))) with hc87 | hc87
    ·
      refine b1 32 hc87 (.K 23 33 <| .K 24 34 <| .K 25 35 <| .K 26 36 <| .K 27 37 <| .K 28 38 <| .nil) [(38, undef), (32, .bool (((decide (j < (2 : Int))) && (letterB c)) || (((decide ((2 : Int) ≤ j)) && (decide (j < (11 : Int)))) && ((letterB c) || (digitB c))))), (7, .int .i64 0), (6, .bool false), (1, .int .i64 j), (2, .int .u8 c)] h86 (Kw.nil hB84) fun q88 h89 => ?_
      clear h86
      refine eE 29 39 (.pick (.tmp 32) (.const (.bool true)) (.tmp 38)) 4 (.bool ((((decide (j < (2 : Int))) && (letterB c)) || (((decide ((2 : Int) ≤ j)) && (decide (j < (11 : Int)))) && ((letterB c) || (digitB c)))) || ((j == (11 : Int)) && (digitB c)))) h89 (hr := r_or (c := ((decide (j < (2 : Int))) && (letterB c)) || (((decide ((2 : Int) ≤ j)) && (decide (j < (11 : Int)))) && ((letterB c) || (digitB c)))) (d := ((j == (11 : Int)) && (digitB c))) (by kernel_rfl) (fun e92 => Bool.noConfusion (e92.symm.trans hc87))) fun q90 h91 => ?_
      clear h89
      exact ⟨h91.keep _ ⟨rfl, rfl, rfl, rfl, rfl, trivial⟩, hB84⟩
    ·
      refine b1 32 hc87 (.C 23 33 <| .E 24 34 (.bool (j == (11 : Int))) <| .C 25 35 <| .nil) [(35, .bool (j == (11 : Int))), (32, .bool (((decide (j < (2 : Int))) && (letterB c)) || (((decide ((2 : Int) ≤ j)) && (decide (j < (11 : Int)))) && ((letterB c) || (digitB c))))), (7, .int .i64 0), (6, .bool false), (1, .int .i64 j), (2, .int .u8 c)] h86 (Kw.nil hB84) fun q93 h94 => ?_
      clear h86
      refine wpO_cut [(26, false), (27, false), (28, false)] [(29, false)] (fun qa qw => Fr 74 [(38, .bool ((j == (11 : Int)) && (digitB c))), (32, .bool (((decide (j < (2 : Int))) && (letterB c)) || (((decide ((2 : Int) ≤ j)) && (decide (j < (11 : Int)))) && ((letterB c) || (digitB c))))), (7, .int .i64 0), (6, .bool false), (1, .int .i64 j), (2, .int .u8 c)] qa ∧ Bx w [] qw) ?_ ?_
      ·
        rcases Bool.eq_false_or_eq_true (j == (11 : Int)) with hc95 | hc95
        ·
          refine b1 35 hc95 (.C 26 36 <| .nil) [(36, .int .u8 c), (35, .bool (j == (11 : Int))), (32, .bool (((decide (j < (2 : Int))) && (letterB c)) || (((decide ((2 : Int) ≤ j)) && (decide (j < (11 : Int)))) && ((letterB c) || (digitB c))))), (7, .int .i64 0), (6, .bool false), (1, .int .i64 j), (2, .int .u8 c)] h94 (Kw.nil hB84) fun q96 h97 => ?_
          clear h94
          refine sC 27 37 (g := (some (25, true))) h97 (g1 35 hc95) (c93 c w82) ?_
          rintro _ w100 ⟨rfl, hb101⟩
          have hB102 := hB84.call hb101
          refine ⟨_, rfl, trivial, fun q98 h99 => ?_⟩
          clear h97 hB84 hb101
          refine eG 28 38 (.pick (.tmp 35) (.tmp 37) (.const (.bool false))) 4 (22, false) (.bool ((j == (11 : Int)) && (digitB c))) (g2 32 hc87) h99 (hr := r_and (c := (j == (11 : Int))) (d := (digitB c)) (by kernel_rfl) (fun _ => by kernel_rfl)) fun q103 h104 => ?_
          clear h99
          exact ⟨h104.keep _ ⟨rfl, rfl, rfl, rfl, rfl, rfl, trivial⟩, hB102⟩
        ·
          refine b1 35 hc95 (.K 26 36 <| .K 27 37 <| .nil) [(37, undef), (35, .bool (j == (11 : Int))), (32, .bool (((decide (j < (2 : Int))) && (letterB c)) || (((decide ((2 : Int) ≤ j)) && (decide (j < (11 : Int)))) && ((letterB c) || (digitB c))))), (7, .int .i64 0), (6, .bool false), (1, .int .i64 j), (2, .int .u8 c)] h94 (Kw.nil hB84) fun q105 h106 => ?_
          clear h94
          refine eG 28 38 (.pick (.tmp 35) (.tmp 37) (.const (.bool false))) 4 (22, false) (.bool ((j == (11 : Int)) && (digitB c))) (g2 32 hc87) h106 (hr := r_and (c := (j == (11 : Int))) (d := (digitB c)) (by kernel_rfl) (fun e109 => Bool.noConfusion (e109.symm.trans hc95))) fun q107 h108 => ?_
          clear h106
          exact ⟨h108.keep _ ⟨rfl, rfl, rfl, rfl, rfl, rfl, trivial⟩, hB84⟩
      rintro q110 w111 ⟨h112, hB113⟩
      refine eE 29 39 (.pick (.tmp 32) (.const (.bool true)) (.tmp 38)) 4 (.bool ((((decide (j < (2 : Int))) && (letterB c)) || (((decide ((2 : Int) ≤ j)) && (decide (j < (11 : Int)))) && ((letterB c) || (digitB c)))) || ((j == (11 : Int)) && (digitB c)))) h112 (hr := r_or (c := ((decide (j < (2 : Int))) && (letterB c)) || (((decide ((2 : Int) ≤ j)) && (decide (j < (11 : Int)))) && ((letterB c) || (digitB c)))) (d := ((j == (11 : Int)) && (digitB c))) (by kernel_rfl) (fun _ => by kernel_rfl)) fun q114 h115 => ?_
      clear h112
      exact ⟨h115.keep _ ⟨rfl, rfl, rfl, rfl, rfl, trivial⟩, hB113⟩
  rintro q116 w117 ⟨h118, hB119⟩
  refine b0 (.C 30 6 <| .nil) [(6, .bool ((((decide (j < (2 : Int))) && (letterB c)) || (((decide ((2 : Int) ≤ j)) && (decide (j < (11 : Int)))) && ((letterB c) || (digitB c)))) || ((j == (11 : Int)) && (digitB c)))), (7, .int .i64 0), (1, .int .i64 j), (2, .int .u8 c)] h118 (Kw.nil hB119) fun q120 h121 => ?_
  clear h118
  refine wpO_end ?_
  refine then_n ?_
  refine c_ret (by kernel_rfl) ?_
  refine inB_r (then_r ?_)
  refine ret1 (t := 6) (v := .bool ((((decide (j < (2 : Int))) && (letterB c)) || (((decide ((2 : Int) ≤ j)) && (decide (j < (11 : Int)))) && ((letterB c) || (digitB c)))) || ((j == (11 : Int)) && (digitB c)))) h121 (by kernel_rfl) (by kernel_rfl) ?_
  exact ⟨ret_eq (rfl), hB119.bel⟩

set_option maxHeartbeats 4000000 in
set_option maxRecDepth 20000 in
theorem c71_1 (j c : Int) (w : World) : Calls Tryz.prog 115 #[.int .i64 1, .int .i64 j, .int .u8 c] w fun e w' => e = .returned (.bool (mayB 1 j c)) ∧ Below w.heap.size w w' := by
  refine enter Tryz.func115 (by kernel_rfl) ?_ (by kernel_rfl)
  intro q0 h0
  replace h0 := h0.conv (l' := [(0, .int .i64 1), (1, .int .i64 j), (2, .int .u8 c)]) rfl
  have hB := Bx.refl w
  refine kS ?_
  refine rp 1 ?_
  refine b0 (.C 0 6 <| .nil) [(6, .bool false), (0, .int .i64 1), (1, .int .i64 j), (2, .int .u8 c)] h0 (Kw.nil hB) fun q1 h2 => ?_
  clear h0
  refine wpO_end ?_
  refine then_n ?_
  refine kS ?_
  refine kS ?_
  refine rp 1 ?_
  refine b0 (.C 0 7 <| .nil) [(7, .int .i64 1), (6, .bool false), (1, .int .i64 j), (2, .int .u8 c)] h2 (Kw.nil hB) fun q3 h4 => ?_
  clear h2
  refine wpO_end ?_
  refine then_n ?_
  refine c_block 0 (by kernel_rfl) ?_
  refine kS ?_
  refine rp 2 ?_
  refine b0 (.E 0 9 (.bool false) <| .C 1 8 <| .nil) [(8, .bool false), (7, .int .i64 1), (6, .bool false), (1, .int .i64 j), (2, .int .u8 c)] h4 (Kw.nil hB) fun q5 h6 => ?_
  clear h4
  refine wpO_end ?_
  refine then_n ?_
  refine kC 8 false h6 (fun e7 => Bool.noConfusion (e7.symm.trans (rfl))) (fun _ => ?_)
  refine kS ?_
  refine rp 2 ?_
  refine b0 (.E 0 41 (.bool true) <| .C 1 40 <| .nil) [(40, .bool true), (7, .int .i64 1), (6, .bool false), (1, .int .i64 j), (2, .int .u8 c)] h6 (Kw.nil hB) fun q8 h9 => ?_
  clear h6
  refine wpO_end ?_
  refine then_n ?_
  refine kC 40 true h9 (fun _ => ?_) (fun e10 => Bool.noConfusion (e10.symm.trans (rfl)))
  refine kS ?_
  refine rp 11 ?_
  refine b0 (.C 0 42 <| .nil) [(42, .int .u8 c), (7, .int .i64 1), (6, .bool false), (1, .int .i64 j), (2, .int .u8 c)] h9 (Kw.nil hB) fun q11 h12 => ?_
  clear h9
  refine sC 1 43 h12 gok_none (c92 c w) ?_
  rintro _ w15 ⟨rfl, hb16⟩
  have hB17 := hB.call hb16
  refine ⟨_, rfl, trivial, fun q13 h14 => ?_⟩
  clear h12 hB hb16
  refine b0 (.C 2 44 <| .nil) [(44, .bool (letterB c)), (7, .int .i64 1), (6, .bool false), (1, .int .i64 j), (2, .int .u8 c)] h14 (Kw.nil hB17) fun q18 h19 => ?_
  clear h14
  refine wpO_cut [(3, false), (4, false), (5, false), (6, false), (7, false), (8, false), (9, false)] [(10, false)] (fun qa qw => Fr 74 [(51, .bool ((letterB c) || ((decide ((0 : Int) < j)) && (digitB c)))), (7, .int .i64 1), (6, .bool false), (1, .int .i64 j), (2, .int .u8 c)] qa ∧ Bx w [] qw) ?_ ?_
  ·
    rcases Bool.eq_false_or_eq_true (letterB c) with hc20 | hc20
    ·
      refine b1 44 hc20 (.K 3 45 <| .K 4 46 <| .K 5 47 <| .K 6 48 <| .K 7 49 <| .K 8 50 <| .nil) [(50, undef), (44, .bool (letterB c)), (7, .int .i64 1), (6, .bool false), (1, .int .i64 j), (2, .int .u8 c)] h19 (Kw.nil hB17) fun q21 h22 => ?_
      clear h19
      refine eE 9 51 (.pick (.tmp 44) (.const (.bool true)) (.tmp 50)) 4 (.bool ((letterB c) || ((decide ((0 : Int) < j)) && (digitB c)))) h22 (hr := r_or (c := letterB c) (d := ((decide ((0 : Int) < j)) && (digitB c))) (by kernel_rfl) (fun e25 => Bool.noConfusion (e25.symm.trans hc20))) fun q23 h24 => ?_
      clear h22
      exact ⟨h24.keep _ ⟨rfl, rfl, rfl, rfl, rfl, trivial⟩, hB17⟩
    ·
      refine b1 44 hc20 (.C 3 45 <| .E 4 46 (.bool (decide ((0 : Int) < j))) <| .C 5 47 <| .nil) [(47, .bool (decide ((0 : Int) < j))), (44, .bool (letterB c)), (7, .int .i64 1), (6, .bool false), (1, .int .i64 j), (2, .int .u8 c)] h19 (Kw.nil hB17) fun q26 h27 => ?_
      clear h19
      refine wpO_cut [(6, false), (7, false), (8, false)] [(9, false)] (fun qa qw => Fr 74 [(50, .bool ((decide ((0 : Int) < j)) && (digitB c))), (44, .bool (letterB c)), (7, .int .i64 1), (6, .bool false), (1, .int .i64 j), (2, .int .u8 c)] qa ∧ Bx w [] qw) ?_ ?_
      ·
        rcases Bool.eq_false_or_eq_true (decide ((0 : Int) < j)) with hc28 | hc28
        ·
          refine b1 47 hc28 (.C 6 48 <| .nil) [(48, .int .u8 c), (47, .bool (decide ((0 : Int) < j))), (44, .bool (letterB c)), (7, .int .i64 1), (6, .bool false), (1, .int .i64 j), (2, .int .u8 c)] h27 (Kw.nil hB17) fun q29 h30 => ?_
          clear h27
          refine sC 7 49 (g := (some (5, true))) h30 (g1 47 hc28) (c93 c w15) ?_
          rintro _ w33 ⟨rfl, hb34⟩
          have hB35 := hB17.call hb34
          refine ⟨_, rfl, trivial, fun q31 h32 => ?_⟩
          clear h30 hB17 hb34
          refine eG 8 50 (.pick (.tmp 47) (.tmp 49) (.const (.bool false))) 4 (2, false) (.bool ((decide ((0 : Int) < j)) && (digitB c))) (g2 44 hc20) h32 (hr := r_and (c := decide ((0 : Int) < j)) (d := (digitB c)) (by kernel_rfl) (fun _ => by kernel_rfl)) fun q36 h37 => ?_
          clear h32
          exact ⟨h37.keep _ ⟨rfl, rfl, rfl, rfl, rfl, rfl, trivial⟩, hB35⟩
        ·
          refine b1 47 hc28 (.K 6 48 <| .K 7 49 <| .nil) [(49, undef), (47, .bool (decide ((0 : Int) < j))), (44, .bool (letterB c)), (7, .int .i64 1), (6, .bool false), (1, .int .i64 j), (2, .int .u8 c)] h27 (Kw.nil hB17) fun q38 h39 => ?_
          clear h27
          refine eG 8 50 (.pick (.tmp 47) (.tmp 49) (.const (.bool false))) 4 (2, false) (.bool ((decide ((0 : Int) < j)) && (digitB c))) (g2 44 hc20) h39 (hr := r_and (c := decide ((0 : Int) < j)) (d := (digitB c)) (by kernel_rfl) (fun e42 => Bool.noConfusion (e42.symm.trans hc28))) fun q40 h41 => ?_
          clear h39
          exact ⟨h41.keep _ ⟨rfl, rfl, rfl, rfl, rfl, rfl, trivial⟩, hB17⟩
      rintro q43 w44 ⟨h45, hB46⟩
      refine eE 9 51 (.pick (.tmp 44) (.const (.bool true)) (.tmp 50)) 4 (.bool ((letterB c) || ((decide ((0 : Int) < j)) && (digitB c)))) h45 (hr := r_or (c := letterB c) (d := ((decide ((0 : Int) < j)) && (digitB c))) (by kernel_rfl) (fun _ => by kernel_rfl)) fun q47 h48 => ?_
      clear h45
      exact ⟨h48.keep _ ⟨rfl, rfl, rfl, rfl, rfl, trivial⟩, hB46⟩
  rintro q49 w50 ⟨h51, hB52⟩
  refine b0 (.C 10 6 <| .nil) [(6, .bool ((letterB c) || ((decide ((0 : Int) < j)) && (digitB c)))), (7, .int .i64 1), (1, .int .i64 j), (2, .int .u8 c)] h51 (Kw.nil hB52) fun q53 h54 => ?_
  clear h51
  refine wpO_end ?_
  refine then_n ?_
  refine c_ret (by kernel_rfl) ?_
  refine inB_r (then_r ?_)
  refine ret1 (t := 6) (v := .bool ((letterB c) || ((decide ((0 : Int) < j)) && (digitB c)))) h54 (by kernel_rfl) (by kernel_rfl) ?_
  exact ⟨ret_eq (rfl), hB52.bel⟩

set_option maxHeartbeats 4000000 in
set_option maxRecDepth 20000 in
theorem c71_2 (j c : Int) (w : World) : Calls Tryz.prog 115 #[.int .i64 2, .int .i64 j, .int .u8 c] w fun e w' => e = .returned (.bool (mayB 2 j c)) ∧ Below w.heap.size w w' := by
  refine enter Tryz.func115 (by kernel_rfl) ?_ (by kernel_rfl)
  intro q0 h0
  replace h0 := h0.conv (l' := [(0, .int .i64 2), (1, .int .i64 j), (2, .int .u8 c)]) rfl
  have hB := Bx.refl w
  refine kS ?_
  refine rp 1 ?_
  refine b0 (.C 0 6 <| .nil) [(6, .bool false), (0, .int .i64 2), (1, .int .i64 j), (2, .int .u8 c)] h0 (Kw.nil hB) fun q1 h2 => ?_
  clear h0
  refine wpO_end ?_
  refine then_n ?_
  refine kS ?_
  refine kS ?_
  refine rp 1 ?_
  refine b0 (.C 0 7 <| .nil) [(7, .int .i64 2), (6, .bool false), (1, .int .i64 j), (2, .int .u8 c)] h2 (Kw.nil hB) fun q3 h4 => ?_
  clear h2
  refine wpO_end ?_
  refine then_n ?_
  refine c_block 0 (by kernel_rfl) ?_
  refine kS ?_
  refine rp 2 ?_
  refine b0 (.E 0 9 (.bool false) <| .C 1 8 <| .nil) [(8, .bool false), (7, .int .i64 2), (6, .bool false), (1, .int .i64 j), (2, .int .u8 c)] h4 (Kw.nil hB) fun q5 h6 => ?_
  clear h4
  refine wpO_end ?_
  refine then_n ?_
  refine kC 8 false h6 (fun e7 => Bool.noConfusion (e7.symm.trans (rfl))) (fun _ => ?_)
  refine kS ?_
  refine rp 2 ?_
  refine b0 (.E 0 41 (.bool false) <| .C 1 40 <| .nil) [(40, .bool false), (7, .int .i64 2), (6, .bool false), (1, .int .i64 j), (2, .int .u8 c)] h6 (Kw.nil hB) fun q8 h9 => ?_
  clear h6
  refine wpO_end ?_
  refine then_n ?_
  refine kC 40 false h9 (fun e10 => Bool.noConfusion (e10.symm.trans (rfl))) (fun _ => ?_)
  refine kS ?_
  refine rp 2 ?_
  refine b0 (.E 0 53 (.bool true) <| .C 1 52 <| .nil) [(52, .bool true), (6, .bool false), (1, .int .i64 j), (2, .int .u8 c)] h9 (Kw.nil hB) fun q11 h12 => ?_
  clear h9
  refine wpO_end ?_
  refine then_n ?_
  refine kC 52 true h12 (fun _ => ?_) (fun e13 => Bool.noConfusion (e13.symm.trans (rfl)))
  refine kS ?_
  refine rp 11 ?_
  refine b0 (.C 0 54 <| .nil) [(54, .int .u8 c), (6, .bool false), (1, .int .i64 j), (2, .int .u8 c)] h12 (Kw.nil hB) fun q14 h15 => ?_
  clear h12
  refine sC 1 55 h15 gok_none (c92 c w) ?_
  rintro _ w18 ⟨rfl, hb19⟩
  have hB20 := hB.call hb19
  refine ⟨_, rfl, trivial, fun q16 h17 => ?_⟩
  clear h15 hB hb19
  refine b0 (.C 2 56 <| .nil) [(56, .bool (letterB c)), (6, .bool false), (1, .int .i64 j), (2, .int .u8 c)] h17 (Kw.nil hB20) fun q21 h22 => ?_
  clear h17
  refine wpO_cut [(3, false), (4, false), (5, false)] [(6, false), (7, false), (8, false), (9, false), (10, false)] (fun qa qw => Fr 74 [(59, .bool ((letterB c) || (digitB c))), (6, .bool false), (1, .int .i64 j), (2, .int .u8 c)] qa ∧ Bx w [] qw) ?_ ?_
  ·
    rcases Bool.eq_false_or_eq_true (letterB c) with hc23 | hc23
    ·
      refine b1 56 hc23 (.K 3 57 <| .K 4 58 <| .nil) [(58, undef), (56, .bool (letterB c)), (6, .bool false), (1, .int .i64 j), (2, .int .u8 c)] h22 (Kw.nil hB20) fun q24 h25 => ?_
      clear h22
      refine eE 5 59 (.pick (.tmp 56) (.const (.bool true)) (.tmp 58)) 4 (.bool ((letterB c) || (digitB c))) h25 (hr := r_or (c := letterB c) (d := (digitB c)) (by kernel_rfl) (fun e28 => Bool.noConfusion (e28.symm.trans hc23))) fun q26 h27 => ?_
      clear h25
      exact ⟨h27.keep _ ⟨rfl, rfl, rfl, rfl, trivial⟩, hB20⟩
    ·
      refine b1 56 hc23 (.C 3 57 <| .nil) [(57, .int .u8 c), (56, .bool (letterB c)), (6, .bool false), (1, .int .i64 j), (2, .int .u8 c)] h22 (Kw.nil hB20) fun q29 h30 => ?_
      clear h22
      refine sC 4 58 (g := (some (2, false))) h30 (g2 56 hc23) (c93 c w18) ?_
      rintro _ w33 ⟨rfl, hb34⟩
      have hB35 := hB20.call hb34
      refine ⟨_, rfl, trivial, fun q31 h32 => ?_⟩
      clear h30 hB20 hb34
      refine eE 5 59 (.pick (.tmp 56) (.const (.bool true)) (.tmp 58)) 4 (.bool ((letterB c) || (digitB c))) h32 (hr := r_or (c := letterB c) (d := (digitB c)) (by kernel_rfl) (fun _ => by kernel_rfl)) fun q36 h37 => ?_
      clear h32
      exact ⟨h37.keep _ ⟨rfl, rfl, rfl, rfl, trivial⟩, hB35⟩
  rintro q38 w39 ⟨h40, hB41⟩
  refine b0 (.C 6 60 <| .J 9 63 60 62 false ((letterB c) || (digitB c)) (c == (45 : Int)) (.C 7 61 <| .E 8 62 (.bool (c == (45 : Int))) <| .nil) <| .C 10 6 <| .nil) [(6, .bool (((letterB c) || (digitB c)) || (c == (45 : Int)))), (1, .int .i64 j), (2, .int .u8 c)] h40 (Kw.nil hB41) fun q42 h43 => ?_
  clear h40
  refine wpO_end ?_
  refine then_n ?_
  refine c_ret (by kernel_rfl) ?_
  refine inB_r (then_r ?_)
  refine ret1 (t := 6) (v := .bool (((letterB c) || (digitB c)) || (c == (45 : Int)))) h43 (by kernel_rfl) (by kernel_rfl) ?_
  exact ⟨ret_eq (rfl), hB41.bel⟩

set_option maxHeartbeats 4000000 in
set_option maxRecDepth 20000 in
theorem c70_0  (w : World) : Calls Tryz.prog 114 #[.int .i64 0] w (fun e w' => e = .returned (.tuple #[.int .i64 12, .int .i64 12]) ∧ Below w.heap.size w w') := by
  refine enter Tryz.func114 (by kernel_rfl) ?_ (by kernel_rfl)
  intro q0 h0
  replace h0 := h0.conv (l' := [(0, .int .i64 0)]) rfl
  have hB := Bx.refl w
  refine kS ?_
  refine rp 2 ?_
  refine b0 (.C 0 2 <| .C 1 3 <| .nil) [(3, .int .i64 0), (2, .int .i64 0), (0, .int .i64 0)] h0 (Kw.nil hB) fun q1 h2 => ?_
  clear h0
  refine wpO_end ?_
  refine then_n ?_
  refine kS ?_
  refine kS ?_
  refine rp 1 ?_
  refine b0 (.C 0 4 <| .nil) [(4, .int .i64 0), (3, .int .i64 0), (2, .int .i64 0)] h2 (Kw.nil hB) fun q3 h4 => ?_
  clear h2
  refine wpO_end ?_
  refine then_n ?_
  refine c_block 0 (by kernel_rfl) ?_
  refine kS ?_
  refine rp 2 ?_
  refine b0 (.E 0 6 (.bool true) <| .C 1 5 <| .nil) [(5, .bool true), (4, .int .i64 0), (3, .int .i64 0), (2, .int .i64 0)] h4 (Kw.nil hB) fun q5 h6 => ?_
  clear h4
  refine wpO_end ?_
  refine then_n ?_
  refine kC 5 true h6 (fun _ => ?_) (fun e7 => Bool.noConfusion (e7.symm.trans (rfl)))
  refine kS ?_
  refine rp 2 ?_
  refine b0 (.C 0 2 <| .C 1 3 <| .nil) [(3, .int .i64 12), (2, .int .i64 12), (4, .int .i64 0)] h6 (Kw.nil hB) fun q8 h9 => ?_
  clear h6
  refine wpO_end ?_
  refine then_n ?_
  refine c_ret (by kernel_rfl) ?_
  refine inB_r (then_r ?_)
  refine ret2 (t := 2) (u := 3) (v := .int .i64 12) (v' := .int .i64 12) h9 (by kernel_rfl) (by kernel_rfl) (by kernel_rfl) ?_
  exact ⟨rfl, hB.bel⟩

set_option maxHeartbeats 4000000 in
set_option maxRecDepth 20000 in
theorem c70_1  (w : World) : Calls Tryz.prog 114 #[.int .i64 1] w (fun e w' => e = .returned (.tuple #[.int .i64 4, .int .i64 8]) ∧ Below w.heap.size w w') := by
  refine enter Tryz.func114 (by kernel_rfl) ?_ (by kernel_rfl)
  intro q0 h0
  replace h0 := h0.conv (l' := [(0, .int .i64 1)]) rfl
  have hB := Bx.refl w
  refine kS ?_
  refine rp 2 ?_
  refine b0 (.C 0 2 <| .C 1 3 <| .nil) [(3, .int .i64 0), (2, .int .i64 0), (0, .int .i64 1)] h0 (Kw.nil hB) fun q1 h2 => ?_
  clear h0
  refine wpO_end ?_
  refine then_n ?_
  refine kS ?_
  refine kS ?_
  refine rp 1 ?_
  refine b0 (.C 0 4 <| .nil) [(4, .int .i64 1), (3, .int .i64 0), (2, .int .i64 0)] h2 (Kw.nil hB) fun q3 h4 => ?_
  clear h2
  refine wpO_end ?_
  refine then_n ?_
  refine c_block 0 (by kernel_rfl) ?_
  refine kS ?_
  refine rp 2 ?_
  refine b0 (.E 0 6 (.bool false) <| .C 1 5 <| .nil) [(5, .bool false), (4, .int .i64 1), (3, .int .i64 0), (2, .int .i64 0)] h4 (Kw.nil hB) fun q5 h6 => ?_
  clear h4
  refine wpO_end ?_
  refine then_n ?_
  refine kC 5 false h6 (fun e7 => Bool.noConfusion (e7.symm.trans (rfl))) (fun _ => ?_)
  refine kS ?_
  refine rp 2 ?_
  refine b0 (.E 0 8 (.bool true) <| .C 1 7 <| .nil) [(7, .bool true), (4, .int .i64 1), (3, .int .i64 0), (2, .int .i64 0)] h6 (Kw.nil hB) fun q8 h9 => ?_
  clear h6
  refine wpO_end ?_
  refine then_n ?_
  refine kC 7 true h9 (fun _ => ?_) (fun e10 => Bool.noConfusion (e10.symm.trans (rfl)))
  refine kS ?_
  refine rp 2 ?_
  refine b0 (.C 0 2 <| .C 1 3 <| .nil) [(3, .int .i64 8), (2, .int .i64 4), (4, .int .i64 1)] h9 (Kw.nil hB) fun q11 h12 => ?_
  clear h9
  refine wpO_end ?_
  refine then_n ?_
  refine c_ret (by kernel_rfl) ?_
  refine inB_r (then_r ?_)
  refine ret2 (t := 2) (u := 3) (v := .int .i64 4) (v' := .int .i64 8) h12 (by kernel_rfl) (by kernel_rfl) (by kernel_rfl) ?_
  exact ⟨rfl, hB.bel⟩

set_option maxHeartbeats 4000000 in
set_option maxRecDepth 20000 in
theorem c70_2  (w : World) : Calls Tryz.prog 114 #[.int .i64 2] w (fun e w' => e = .returned (.tuple #[.int .i64 1, .int .i64 16]) ∧ Below w.heap.size w w') := by
  refine enter Tryz.func114 (by kernel_rfl) ?_ (by kernel_rfl)
  intro q0 h0
  replace h0 := h0.conv (l' := [(0, .int .i64 2)]) rfl
  have hB := Bx.refl w
  refine kS ?_
  refine rp 2 ?_
  refine b0 (.C 0 2 <| .C 1 3 <| .nil) [(3, .int .i64 0), (2, .int .i64 0), (0, .int .i64 2)] h0 (Kw.nil hB) fun q1 h2 => ?_
  clear h0
  refine wpO_end ?_
  refine then_n ?_
  refine kS ?_
  refine kS ?_
  refine rp 1 ?_
  refine b0 (.C 0 4 <| .nil) [(4, .int .i64 2), (3, .int .i64 0), (2, .int .i64 0)] h2 (Kw.nil hB) fun q3 h4 => ?_
  clear h2
  refine wpO_end ?_
  refine then_n ?_
  refine c_block 0 (by kernel_rfl) ?_
  refine kS ?_
  refine rp 2 ?_
  refine b0 (.E 0 6 (.bool false) <| .C 1 5 <| .nil) [(5, .bool false), (4, .int .i64 2), (3, .int .i64 0), (2, .int .i64 0)] h4 (Kw.nil hB) fun q5 h6 => ?_
  clear h4
  refine wpO_end ?_
  refine then_n ?_
  refine kC 5 false h6 (fun e7 => Bool.noConfusion (e7.symm.trans (rfl))) (fun _ => ?_)
  refine kS ?_
  refine rp 2 ?_
  refine b0 (.E 0 8 (.bool false) <| .C 1 7 <| .nil) [(7, .bool false), (4, .int .i64 2), (3, .int .i64 0), (2, .int .i64 0)] h6 (Kw.nil hB) fun q8 h9 => ?_
  clear h6
  refine wpO_end ?_
  refine then_n ?_
  refine kC 7 false h9 (fun e10 => Bool.noConfusion (e10.symm.trans (rfl))) (fun _ => ?_)
  refine kS ?_
  refine rp 2 ?_
  refine b0 (.E 0 10 (.bool true) <| .C 1 9 <| .nil) [(9, .bool true), (3, .int .i64 0), (2, .int .i64 0)] h9 (Kw.nil hB) fun q11 h12 => ?_
  clear h9
  refine wpO_end ?_
  refine then_n ?_
  refine kC 9 true h12 (fun _ => ?_) (fun e13 => Bool.noConfusion (e13.symm.trans (rfl)))
  refine kS ?_
  refine rp 2 ?_
  refine b0 (.C 0 2 <| .C 1 3 <| .nil) [(3, .int .i64 16), (2, .int .i64 1)] h12 (Kw.nil hB) fun q14 h15 => ?_
  clear h12
  refine wpO_end ?_
  refine then_n ?_
  refine c_ret (by kernel_rfl) ?_
  refine inB_r (then_r ?_)
  refine ret2 (t := 2) (u := 3) (v := .int .i64 1) (v' := .int .i64 16) h15 (by kernel_rfl) (by kernel_rfl) (by kernel_rfl) ?_
  exact ⟨rfl, hB.bel⟩

set_option maxHeartbeats 4000000 in
set_option maxRecDepth 20000 in
theorem c94 (s : ByteArray) (w : World) (hn : s.size ≤ 1000) (hC : ∀ c ∈ s.data.toList, okC c = true) : Calls Tryz.prog 147 #[.string s] w (fun e w' => ∃ v : Value, e = .returned v ∧ w'.ownsRow w.heap.size 3 1 v (digs s.data.toList).length ((digs s.data.toList).map intV) ∧ Below w.heap.size w w') := by
  refine enter Tryz.func147 (by kernel_rfl) ?_ (by kernel_rfl)
  intro q0 h0
  replace h0 := h0.conv (l' := [(0, .string s)]) rfl
  have hB := Bx.refl w
  refine kS ?_
  refine rp 1 ?_
  refine b0 (.C 0 2 <| .nil) [(2, .slice none 0 0), (0, .string s)] h0 (Kw.nil hB) fun q1 h2 => ?_
  clear h0
  refine wpO_end ?_
  refine then_n ?_
  refine kS ?_
  refine rp 1 ?_
  refine b0 (.C 0 3 <| .nil) [(3, .slice none 0 0), (2, .slice none 0 0), (0, .string s)] h2 (Kw.nil hB) fun q3 h4 => ?_
  clear h2
  refine wpO_end ?_
  refine then_n ?_
  refine kS ?_
  refine kS ?_
  refine rp 1 ?_
  refine b0 (.C 0 4 <| .nil) [(4, .int .i64 0), (3, .slice none 0 0), (2, .slice none 0 0), (0, .string s)] h4 (Kw.nil hB) fun q5 h6 => ?_
  clear h4
  refine wpO_end ?_
  refine then_n ?_
  refine c_block 0 (by kernel_rfl) ?_
  refine c_loop (by kernel_rfl) (fun qa qw => ∃ k : Nat, ∃ (v : Value), (k ≤ s.size) ∧ Fr 38 [(4, .int .i64 ((k : Nat) : Int)), (0, .string s), (3, v)] qa ∧ Bx w [] qw ∧ (qw.ownsRow w.heap.size 3 1 v (digs (s.data.toList.take k)).length ((digs (s.data.toList.take k)).map intV))) (fun qa _ => (((s.size : Int)) - intAt qa 4).toNat) ⟨0, .slice none 0 0, Nat.zero_le _, h6.keep _ ⟨rfl, rfl, rfl, trivial⟩, hB, own_nil _ _ _ _⟩ ?_
  rintro q7 w8 ⟨k, v, hk11, h9, hB10, hx13⟩
  have hm12 := h9.int (k := 4) (kd := .i64) (z := ((k : Nat) : Int)) rfl
  clear h6 hB
  refine kS ?_
  refine kS ?_
  refine rp 4 ?_
  refine b0 (.C 0 6 <| .C 1 7 <| .E 2 8 (.int .i64 ((s.size : Nat) : Int)) <| .E 3 9 (.bool (decide (((k : Nat) : Int) < ((s.size : Nat) : Int)))) <| .nil) [(9, .bool (decide (((k : Nat) : Int) < ((s.size : Nat) : Int)))), (4, .int .i64 ((k : Nat) : Int)), (0, .string s), (3, v)] h9 (Kw.nil hB10) fun q14 h15 => ?_
  clear h9
  refine wpO_end ?_
  refine then_n ?_
  refine kC 9 (decide (((k : Nat) : Int) < ((s.size : Nat) : Int))) h15 (fun hc16 => ?_) (fun hc16 => ?_)
  ·
    have hp17 : (((k : Nat) : Int) < ((s.size : Nat) : Int)) := of_decide_eq_true hc16
    have hlt : (k : Int) < (s.size : Int) := by omega
    have hg := getL hlt
    have hok := hC _ (List.mem_of_getElem? hg)
    have hdl := digs_len2 (s.data.toList.take k)
    rw [List.length_take] at hdl
    refine c_skip (by kernel_rfl) ?_
    refine then_n ?_
    refine kS ?_
    refine c_block 1 (by kernel_rfl) ?_
    refine kS ?_
    refine kS ?_
    refine rp 4 ?_
    refine b0 (.C 0 12 <| .C 1 13 <| .nil) [(13, .int .i64 ((k : Nat) : Int)), (12, .string s), (9, .bool (decide (((k : Nat) : Int) < ((s.size : Nat) : Int)))), (4, .int .i64 ((k : Nat) : Int)), (0, .string s), (3, v)] h15 (Kw.nil hB10) fun q18 h19 => ?_
    clear h15
    refine eE 2 14 (.index 9 (.tmp 12) (.tmp 13)) 5 (.int .u8 (((chAt s k).toNat : Nat) : Int)) h19 (hr := r_indexS (kd := .i64) (i := k) (b := (chAt s k)) (by kernel_rfl) (by kernel_rfl) (getS hlt) (by kernel_rfl)) fun q20 h21 => ?_
    clear h19
    refine sC 3 15 h21 gok_none (c93 (((chAt s k).toNat : Nat) : Int) w8) ?_
    rintro _ w24 ⟨rfl, hb25⟩
    have hB26 := hB10.call hb25
    have ho27 := own_below hx13 hb25
    refine ⟨_, rfl, trivial, fun q22 h23 => ?_⟩
    clear h21 hB10 hb25
    refine wpO_end ?_
    have h28 := h23.keep [(15, .bool (digitB (((chAt s k).toNat : Nat) : Int))), (9, .bool (decide (((k : Nat) : Int) < ((s.size : Nat) : Int)))), (4, .int .i64 ((k : Nat) : Int)), (0, .string s), (3, v)] ⟨rfl, rfl, rfl, rfl, rfl, trivial⟩
    clear h23
    refine then_n ?_
    refine kC 15 (digitB (((chAt s k).toNat : Nat) : Int)) h28 (fun hc29 => ?_) (fun hc29 => ?_)
    ·
      refine kS ?_
      refine rp 9 ?_
      refine b0 (.C 0 16 <| .C 1 17 <| .C 2 18 <| .nil) [(18, .int .i64 ((k : Nat) : Int)), (17, .string s), (16, v), (15, .bool (digitB (((chAt s k).toNat : Nat) : Int))), (9, .bool (decide (((k : Nat) : Int) < ((s.size : Nat) : Int)))), (4, .int .i64 ((k : Nat) : Int)), (0, .string s), (3, v)] h28 (Kw.nil hB26) fun q30 h31 => ?_
      clear h28
      refine eE 3 19 (.index 9 (.tmp 17) (.tmp 18)) 5 (.int .u8 (((chAt s k).toNat : Nat) : Int)) h31 (hr := r_indexS (kd := .i64) (i := k) (b := (chAt s k)) (by kernel_rfl) (by kernel_rfl) (getS hlt) (by kernel_rfl)) fun q32 h33 => ?_
      clear h31
      refine b0 (.E 4 20 (.int .u8 (IntKind.u8.wrap ((((chAt s k).toNat : Nat) : Int) - 48))) <| .nil) [(20, .int .u8 (IntKind.u8.wrap ((((chAt s k).toNat : Nat) : Int) - 48))), (16, v), (15, .bool (digitB (((chAt s k).toNat : Nat) : Int))), (9, .bool (decide (((k : Nat) : Int) < ((s.size : Nat) : Int)))), (4, .int .i64 ((k : Nat) : Int)), (0, .string s), (3, v)] h33 (Kw.nil hB26) fun q34 h35 => ?_
      clear h33
      refine eE 5 21 (.convert 5 3 (.tmp 20)) 3 (.int .i64 (IntKind.i64.wrap (IntKind.u8.wrap ((((chAt s k).toNat : Nat) : Int) - 48)))) h35 fun q36 h37 => ?_
      clear h35
      have h38 := h37.keep [(21, .int .i64 (((chAt s k).toNat - 48 : Nat) : Int)), (20, .int .u8 (IntKind.u8.wrap ((((chAt s k).toNat : Nat) : Int) - 48))), (16, v), (15, .bool (digitB (((chAt s k).toNat : Nat) : Int))), (9, .bool (decide (((k : Nat) : Int) < ((s.size : Nat) : Int)))), (4, .int .i64 ((k : Nat) : Int)), (0, .string s), (3, v)] ⟨look_int rfl (dig_val _ hc29), rfl, rfl, rfl, rfl, rfl, rfl, rfl, trivial⟩
      clear h37
      refine sA 6 22 (fun b => .slice (some ⟨b, 0, none⟩) 1 1) (.cells #[.int .i64 (((chAt s k).toNat - 48 : Nat) : Int)] 3 (0, 0)) h38 gok_none hB26 (fun _ _ hq => trivial) (fun b41 w42 hB43 hN q39 h40 => ?_)
      have ho44 := own_below ho27 hN
      clear h38 hB26 hN
      have hr53 := Rd.of_blk (hB43.at 0 rfl)
      refine stApp (x := Operand.tmp 16) (y := Operand.tmp 22) (i := 7) (d := 23) (t := 51) (e := 3) (size := 1) (bytes := 8) (base := w.heap.size) (nn := (digs (s.data.toList.take k)).length) (m := 1) (c := 1) (ty := 51) (g := none) (v := v) (xs := ((digs (s.data.toList.take k)).map intV)) (news := [.int .i64 (((chAt s k).toNat - 48 : Nat) : Int)]) (ad := ⟨b41, 0, none⟩) h40 (by kernel_rfl) (by kernel_rfl) (by kernel_rfl) gok_none (by kernel_rfl) (by decide) (by kernel_rfl) (by kernel_rfl) ho44 (by kernel_rfl) (fun j u hj => by obtain ⟨ad', e1, -, h1⟩ := hr53 j u hj; cases e1; exact h1) (by intro u hu; revert u hu; simp only [List.forall_mem_cons]; exact ⟨rfl, fun _ h => absurd h (by simp)⟩) (by first | (unfold maxLen; omega) | omega) (by first | (unfold maxLen; omega) | omega) hB43.tail hB43.bel.size (Nat.le_refl _) (by kernel_rfl) (fun _ hq => trivial) (fun v47 w48 ho49 hg50 hB51 hz52 q45 h46 => ?_)
      clear h40 hB43 hr53
      refine b0 (.C 8 3 <| .nil) [(3, v47), (15, .bool (digitB (((chAt s k).toNat : Nat) : Int))), (9, .bool (decide (((k : Nat) : Int) < ((s.size : Nat) : Int)))), (4, .int .i64 ((k : Nat) : Int)), (0, .string s)] h46 (Kw.nil hB51) fun q54 h55 => ?_
      clear h46
      refine wpO_end ?_
      refine then_n ?_
      refine c_exit 1 (by kernel_rfl) ?_
      refine then_e (inB_hit ?_)
      refine then_n ?_
      refine rp 3 ?_
      refine b0 (.C 0 10 <| .E 1 11 (.int .i64 (IntKind.i64.wrap (((k : Nat) : Int) + 1))) <| .C 2 4 <| .nil) [(4, .int .i64 (IntKind.i64.wrap (((k : Nat) : Int) + 1))), (3, v47), (15, .bool (digitB (((chAt s k).toNat : Nat) : Int))), (9, .bool (decide (((k : Nat) : Int) < ((s.size : Nat) : Int)))), (0, .string s)] h55 (Kw.nil hB51) fun q56 h57 => ?_
      clear h55
      refine wpO_end ?_
      have h58 := h57.keep [(4, .int .i64 (((k + 1) : Nat) : Int)), (0, .string s), (3, v47)] ⟨look_int rfl (wrap_succ (by have := hn; omega)), rfl, rfl, trivial⟩
      have hm59 := h58.int (k := 4) (kd := .i64) (z := (((k + 1) : Nat) : Int)) rfl
      refine then_n ⟨⟨k + 1, v47, by omega, h58, hB51, digs_next1 hg hc29 ho49⟩, ?_⟩
      show (((s.size : Int)) - intAt _ 4).toNat < (((s.size : Int)) - intAt _ 4).toNat
      rw [hm12, hm59]; omega
    have hsm := expC_letter _ hok hc29
    refine c_skip (by kernel_rfl) ?_
    refine then_n ?_
    refine kS ?_
    refine rp 7 ?_
    refine b0 (.C 0 24 <| .C 1 25 <| .nil) [(25, .int .i64 ((k : Nat) : Int)), (24, .string s), (15, .bool (digitB (((chAt s k).toNat : Nat) : Int))), (9, .bool (decide (((k : Nat) : Int) < ((s.size : Nat) : Int)))), (4, .int .i64 ((k : Nat) : Int)), (0, .string s), (3, v)] h28 (Kw.nil hB26) fun q60 h61 => ?_
    clear h28
    refine eE 2 26 (.index 9 (.tmp 24) (.tmp 25)) 5 (.int .u8 (((chAt s k).toNat : Nat) : Int)) h61 (hr := r_indexS (kd := .i64) (i := k) (b := (chAt s k)) (by kernel_rfl) (by kernel_rfl) (getS hlt) (by kernel_rfl)) fun q62 h63 => ?_
    clear h61
    refine b0 (.E 3 27 (.int .u8 (IntKind.u8.wrap ((((chAt s k).toNat : Nat) : Int) - 65))) <| .E 4 28 (.int .i64 (IntKind.i64.wrap (IntKind.u8.wrap ((((chAt s k).toNat : Nat) : Int) - 65)))) <| .nil) [(28, .int .i64 (IntKind.i64.wrap (IntKind.u8.wrap ((((chAt s k).toNat : Nat) : Int) - 65)))), (15, .bool (digitB (((chAt s k).toNat : Nat) : Int))), (9, .bool (decide (((k : Nat) : Int) < ((s.size : Nat) : Int)))), (4, .int .i64 ((k : Nat) : Int)), (0, .string s), (3, v)] h63 (Kw.nil hB26) fun q64 h65 => ?_
    clear h63
    refine eE 5 29 (.binOp .add 3 (.tmp 28) (.const (.int .i64 10)) 3) 3 (.int .i64 (IntKind.i64.wrap ((IntKind.i64.wrap (IntKind.u8.wrap ((((chAt s k).toNat : Nat) : Int) - 65))) + 10))) h65 fun q66 h67 => ?_
    clear h65
    have h68 := h67.keep [(29, .int .i64 (((chAt s k).toNat - 55 : Nat) : Int)), (28, .int .i64 (IntKind.i64.wrap (IntKind.u8.wrap ((((chAt s k).toNat : Nat) : Int) - 65)))), (15, .bool (digitB (((chAt s k).toNat : Nat) : Int))), (9, .bool (decide (((k : Nat) : Int) < ((s.size : Nat) : Int)))), (4, .int .i64 ((k : Nat) : Int)), (0, .string s), (3, v)] ⟨look_int rfl (up_val _ hsm.2.2.1 hsm.2.2.2), rfl, rfl, rfl, rfl, rfl, rfl, trivial⟩
    clear h67
    refine b0 (.C 6 5 <| .nil) [(5, .int .i64 (((chAt s k).toNat - 55 : Nat) : Int)), (15, .bool (digitB (((chAt s k).toNat : Nat) : Int))), (9, .bool (decide (((k : Nat) : Int) < ((s.size : Nat) : Int)))), (4, .int .i64 ((k : Nat) : Int)), (0, .string s), (3, v)] h68 (Kw.nil hB26) fun q69 h70 => ?_
    clear h68
    refine wpO_end ?_
    refine then_n ?_
    refine rp 8 ?_
    refine b0 (.C 0 30 <| .C 1 31 <| .nil) [(31, .int .i64 (((chAt s k).toNat - 55 : Nat) : Int)), (30, v), (5, .int .i64 (((chAt s k).toNat - 55 : Nat) : Int)), (15, .bool (digitB (((chAt s k).toNat : Nat) : Int))), (9, .bool (decide (((k : Nat) : Int) < ((s.size : Nat) : Int)))), (4, .int .i64 ((k : Nat) : Int)), (0, .string s), (3, v)] h70 (Kw.nil hB26) fun q71 h72 => ?_
    clear h70
    refine eE 2 32 (.binOp .quo 3 (.tmp 31) (.const (.int .i64 10)) 3) 3 (.int .i64 (IntKind.i64.wrap (Int.tdiv (((chAt s k).toNat - 55 : Nat) : Int) (10 : Int)))) h72 fun q73 h74 => ?_
    clear h72
    have h75 := h74.keep [(32, .int .i64 ((((chAt s k).toNat - 55) / 10 : Nat) : Int)), (31, .int .i64 (((chAt s k).toNat - 55 : Nat) : Int)), (30, v), (5, .int .i64 (((chAt s k).toNat - 55 : Nat) : Int)), (15, .bool (digitB (((chAt s k).toNat : Nat) : Int))), (9, .bool (decide (((k : Nat) : Int) < ((s.size : Nat) : Int)))), (4, .int .i64 ((k : Nat) : Int)), (0, .string s), (3, v)] ⟨look_int rfl (div_val _ (by omega)).1, rfl, rfl, rfl, rfl, rfl, rfl, rfl, rfl, trivial⟩
    clear h74
    refine b0 (.C 3 33 <| .nil) [(33, .int .i64 (((chAt s k).toNat - 55 : Nat) : Int)), (32, .int .i64 ((((chAt s k).toNat - 55) / 10 : Nat) : Int)), (30, v), (5, .int .i64 (((chAt s k).toNat - 55 : Nat) : Int)), (15, .bool (digitB (((chAt s k).toNat : Nat) : Int))), (9, .bool (decide (((k : Nat) : Int) < ((s.size : Nat) : Int)))), (4, .int .i64 ((k : Nat) : Int)), (0, .string s), (3, v)] h75 (Kw.nil hB26) fun q76 h77 => ?_
    clear h75
    refine eE 4 34 (.binOp .rem 3 (.tmp 33) (.const (.int .i64 10)) 3) 3 (.int .i64 (Int.tmod (((chAt s k).toNat - 55 : Nat) : Int) (10 : Int))) h77 fun q78 h79 => ?_
    clear h77
    have h80 := h79.keep [(34, .int .i64 ((((chAt s k).toNat - 55) % 10 : Nat) : Int)), (33, .int .i64 (((chAt s k).toNat - 55 : Nat) : Int)), (32, .int .i64 ((((chAt s k).toNat - 55) / 10 : Nat) : Int)), (30, v), (5, .int .i64 (((chAt s k).toNat - 55 : Nat) : Int)), (15, .bool (digitB (((chAt s k).toNat : Nat) : Int))), (9, .bool (decide (((k : Nat) : Int) < ((s.size : Nat) : Int)))), (4, .int .i64 ((k : Nat) : Int)), (0, .string s), (3, v)] ⟨look_int rfl (div_val _ (by omega)).2, rfl, rfl, rfl, rfl, rfl, rfl, rfl, rfl, rfl, trivial⟩
    clear h79
    refine sA 5 35 (fun b => .slice (some ⟨b, 0, none⟩) 2 2) (.cells #[.int .i64 ((((chAt s k).toNat - 55) / 10 : Nat) : Int), .int .i64 ((((chAt s k).toNat - 55) % 10 : Nat) : Int)] 3 (0, 0)) h80 gok_none hB26 (fun _ _ hq => trivial) (fun b83 w84 hB85 hN q81 h82 => ?_)
    have ho86 := own_below ho27 hN
    clear h80 hB26 hN
    have hr95 := Rd.of_blk (hB85.at 0 rfl)
    refine stApp (x := Operand.tmp 30) (y := Operand.tmp 35) (i := 6) (d := 36) (t := 51) (e := 3) (size := 1) (bytes := 8) (base := w.heap.size) (nn := (digs (s.data.toList.take k)).length) (m := 2) (c := 2) (ty := 51) (g := none) (v := v) (xs := ((digs (s.data.toList.take k)).map intV)) (news := [.int .i64 ((((chAt s k).toNat - 55) / 10 : Nat) : Int), .int .i64 ((((chAt s k).toNat - 55) % 10 : Nat) : Int)]) (ad := ⟨b83, 0, none⟩) h82 (by kernel_rfl) (by kernel_rfl) (by kernel_rfl) gok_none (by kernel_rfl) (by decide) (by kernel_rfl) (by kernel_rfl) ho86 (by kernel_rfl) (fun j u hj => by obtain ⟨ad', e1, -, h1⟩ := hr95 j u hj; cases e1; exact h1) (by intro u hu; revert u hu; simp only [List.forall_mem_cons]; exact ⟨rfl, rfl, fun _ h => absurd h (by simp)⟩) (by first | (unfold maxLen; omega) | omega) (by first | (unfold maxLen; omega) | omega) hB85.tail hB85.bel.size (Nat.le_refl _) (by kernel_rfl) (fun _ hq => trivial) (fun v89 w90 ho91 hg92 hB93 hz94 q87 h88 => ?_)
    clear h82 hB85 hr95
    refine b0 (.C 7 3 <| .nil) [(3, v89), (5, .int .i64 (((chAt s k).toNat - 55 : Nat) : Int)), (15, .bool (digitB (((chAt s k).toNat : Nat) : Int))), (9, .bool (decide (((k : Nat) : Int) < ((s.size : Nat) : Int)))), (4, .int .i64 ((k : Nat) : Int)), (0, .string s)] h88 (Kw.nil hB93) fun q96 h97 => ?_
    clear h88
    refine wpO_end ?_
    refine inB_n ?_
    refine then_n ?_
    refine rp 3 ?_
    refine b0 (.C 0 10 <| .E 1 11 (.int .i64 (IntKind.i64.wrap (((k : Nat) : Int) + 1))) <| .C 2 4 <| .nil) [(4, .int .i64 (IntKind.i64.wrap (((k : Nat) : Int) + 1))), (3, v89), (5, .int .i64 (((chAt s k).toNat - 55 : Nat) : Int)), (15, .bool (digitB (((chAt s k).toNat : Nat) : Int))), (9, .bool (decide (((k : Nat) : Int) < ((s.size : Nat) : Int)))), (0, .string s)] h97 (Kw.nil hB93) fun q98 h99 => ?_
    clear h97
    refine wpO_end ?_
    have h100 := h99.keep [(4, .int .i64 (((k + 1) : Nat) : Int)), (0, .string s), (3, v89)] ⟨look_int rfl (wrap_succ (by have := hn; omega)), rfl, rfl, trivial⟩
    have hm101 := h100.int (k := 4) (kd := .i64) (z := (((k + 1) : Nat) : Int)) rfl
    refine then_n ⟨⟨k + 1, v89, by omega, h100, hB93, digs_next2 hg hc29 ho91⟩, ?_⟩
    show (((s.size : Int)) - intAt _ 4).toNat < (((s.size : Int)) - intAt _ 4).toNat
    rw [hm12, hm101]; omega
  have hp102 : ¬ (((k : Nat) : Int) < ((s.size : Nat) : Int)) := of_decide_eq_false hc16
  have hke : k = s.size := by omega
  refine c_exit 0 (by kernel_rfl) ?_
  refine then_e (then_e (inB_hit ?_))
  refine then_n ?_
  refine kS ?_
  refine rp 2 ?_
  refine b0 (.C 0 37 <| .C 1 2 <| .nil) [(2, v)] h15 (Kw.nil hB10) fun q103 h104 => ?_
  clear h15
  refine wpO_end ?_
  refine then_n ?_
  refine c_ret (by kernel_rfl) ?_
  refine ret1 (t := 2) (v := v) h104 (by kernel_rfl) (by kernel_rfl) ?_
  exact ⟨v, rfl, by have := hx13; rwa [List.take_of_length_le (by have e : s.data.toList.length = s.size := Array.length_toList; omega)] at this, hB10.bel⟩

set_option maxHeartbeats 4000000 in
set_option maxRecDepth 20000 in
theorem c72 (s : ByteArray) (w : World) (hn : s.size ≤ 1000) (hC : ∀ c ∈ s.data.toList, okC c = true) : Calls Tryz.prog 116 #[.string s] w (fun e w' => e = .returned (.int .i64 ((luhnD s.data.toList : Nat) : Int)) ∧ Below w.heap.size w w') := by
  have hxl := digs_len2 s.data.toList
  rw [show s.data.toList.length = s.size from Array.length_toList] at hxl
  refine enter Tryz.func116 (by kernel_rfl) ?_ (by kernel_rfl)
  intro q0 h0
  replace h0 := h0.conv (l' := [(0, .string s)]) rfl
  have hB := Bx.refl w
  refine kS ?_
  refine rp 1 ?_
  refine b0 (.C 0 2 <| .nil) [(2, .int .i64 0), (0, .string s)] h0 (Kw.nil hB) fun q1 h2 => ?_
  clear h0
  refine wpO_end ?_
  refine then_n ?_
  refine kS ?_
  refine rp 3 ?_
  refine b0 (.C 0 7 <| .nil) [(7, .string s), (2, .int .i64 0)] h2 (Kw.nil hB) fun q3 h4 => ?_
  clear h2
  refine sC 1 8 h4 gok_none (c94 s w hn hC) ?_
  rintro _ w7 ⟨v10, rfl, ho11, hb8⟩
  obtain ⟨A, c, rfl, -, hrd⟩ := own_rd ho11
  have hB9 := hB.call hb8
  refine ⟨_, rfl, trivial, fun q5 h6 => ?_⟩
  clear h4 hB hb8
  refine eE 2 3 (.assign (.tmp 8)) 51 (.slice A ((digs s.data.toList).length) c) h6 fun q12 h13 => ?_
  clear h6
  have hbl14 := hB9.bel
  have hB15 := Bx.refl w7
  clear hB9
  refine wpO_end ?_
  have h16 := h13.keep [(3, .slice A ((digs s.data.toList).length) c), (2, .int .i64 0)] ⟨rfl, rfl, trivial⟩
  clear h13
  refine then_n ?_
  refine kS ?_
  refine rp 1 ?_
  refine b0 (.C 0 4 <| .nil) [(4, .int .i64 0), (3, .slice A ((digs s.data.toList).length) c), (2, .int .i64 0)] h16 (Kw.nil hB15) fun q17 h18 => ?_
  clear h16
  refine wpO_end ?_
  refine then_n ?_
  refine kS ?_
  refine kS ?_
  refine rp 1 ?_
  refine b0 (.C 0 5 <| .nil) [(5, .int .i64 0), (4, .int .i64 0), (3, .slice A ((digs s.data.toList).length) c), (2, .int .i64 0)] h18 (Kw.nil hB15) fun q19 h20 => ?_
  clear h18
  refine wpO_end ?_
  refine then_n ?_
  refine c_block 0 (by kernel_rfl) ?_
  refine c_loop (by kernel_rfl) (fun qa qw => ∃ k : Nat, (k ≤ (digs s.data.toList).length) ∧ Fr 39 [(3, .slice A ((digs s.data.toList).length) c), (5, .int .i64 ((k : Nat) : Int)), (4, .int .i64 ((lSum (digs s.data.toList) k : Nat) : Int))] qa ∧ Bx w7 [] qw) (fun qa _ => ((((digs s.data.toList).length : Int)) - intAt qa 5).toNat) ⟨0, Nat.zero_le _, h20.keep _ ⟨rfl, rfl, rfl, trivial⟩, hB15⟩ ?_
  rintro q21 w22 ⟨k, hk25, h23, hB24⟩
  have hm26 := h23.int (k := 5) (kd := .i64) (z := ((k : Nat) : Int)) rfl
  clear h20 hB15
  have hS := lSum_le (digs s.data.toList) (digs_lt _ hC) k
  refine kS ?_
  refine kS ?_
  refine rp 4 ?_
  refine b0 (.C 0 9 <| .C 1 10 <| .E 2 11 (.int .i64 (((digs s.data.toList).length : Nat) : Int)) <| .E 3 12 (.bool (decide (((k : Nat) : Int) < (((digs s.data.toList).length : Nat) : Int)))) <| .nil) [(12, .bool (decide (((k : Nat) : Int) < (((digs s.data.toList).length : Nat) : Int)))), (3, .slice A ((digs s.data.toList).length) c), (5, .int .i64 ((k : Nat) : Int)), (4, .int .i64 ((lSum (digs s.data.toList) k : Nat) : Int))] h23 (Kw.nil hB24) fun q27 h28 => ?_
  clear h23
  refine wpO_end ?_
  refine then_n ?_
  refine kC 12 (decide (((k : Nat) : Int) < (((digs s.data.toList).length : Nat) : Int))) h28 (fun hc29 => ?_) (fun hc29 => ?_)
  ·
    have hp30 : (((k : Nat) : Int) < (((digs s.data.toList).length : Nat) : Int)) := of_decide_eq_true hc29
    have hlt : k < (digs s.data.toList).length := by omega
    have hd := digs_lt s.data.toList hC ((digs s.data.toList).length - 1 - k)
    obtain ⟨ad, hA, hE0⟩ := hrd.el (((digs s.data.toList).length - 1 - k) * 1) [.int .i64 (((digs s.data.toList).getD ((digs s.data.toList).length - 1 - k) 0 : Nat) : Int)] (by simp) (intV_get _ ((digs s.data.toList).length - 1 - k) (by omega))
    subst hA
    refine c_skip (by kernel_rfl) ?_
    refine then_n ?_
    refine kS ?_
    refine c_block 1 (by kernel_rfl) ?_
    refine kS ?_
    refine rp 9 ?_
    refine b0 (.C 0 15 <| .C 1 16 <| .E 2 17 (.int .i64 (((digs s.data.toList).length : Nat) : Int)) <| .E 3 18 (.int .i64 (IntKind.i64.wrap ((((digs s.data.toList).length : Nat) : Int) - 1))) <| .C 4 19 <| .nil) [(19, .int .i64 ((k : Nat) : Int)), (18, .int .i64 (IntKind.i64.wrap ((((digs s.data.toList).length : Nat) : Int) - 1))), (15, .slice (some ad) ((digs s.data.toList).length) c), (12, .bool (decide (((k : Nat) : Int) < (((digs s.data.toList).length : Nat) : Int)))), (3, .slice (some ad) ((digs s.data.toList).length) c), (5, .int .i64 ((k : Nat) : Int)), (4, .int .i64 ((lSum (digs s.data.toList) k : Nat) : Int))] h28 (Kw.nil hB24) fun q31 h32 => ?_
    clear h28
    refine eE 5 20 (.binOp .sub 3 (.tmp 18) (.tmp 19) 3) 3 (.int .i64 (IntKind.i64.wrap ((IntKind.i64.wrap ((((digs s.data.toList).length : Nat) : Int) - 1)) - ((k : Nat) : Int)))) h32 fun q33 h34 => ?_
    clear h32
    have h35 := h34.keep [(20, .int .i64 ((((digs s.data.toList).length - 1 - k) : Nat) : Int)), (19, .int .i64 ((k : Nat) : Int)), (18, .int .i64 (IntKind.i64.wrap ((((digs s.data.toList).length : Nat) : Int) - 1))), (15, .slice (some ad) ((digs s.data.toList).length) c), (12, .bool (decide (((k : Nat) : Int) < (((digs s.data.toList).length : Nat) : Int)))), (3, .slice (some ad) ((digs s.data.toList).length) c), (5, .int .i64 ((k : Nat) : Int)), (4, .int .i64 ((lSum (digs s.data.toList) k : Nat) : Int))] ⟨look_int rfl (by rw [wrap_i64 (z := (((digs s.data.toList).length : Nat) : Int) - 1) (by omega) (by omega), wrap_i64 (by omega) (by omega)]; omega), rfl, rfl, rfl, rfl, rfl, rfl, rfl, trivial⟩
    clear h34
    refine eE 6 21 (.indexAddr 51 (.tmp 15) (.tmp 20)) 0 (.pointer (some ((ad.add (((digs s.data.toList).length - 1 - k) * 1)).add 0))) h35 (hr := r_index0 (n := (digs s.data.toList).length) (c := c) (kd := .i64) (by kernel_rfl) (by kernel_rfl) (by omega) (by kernel_rfl)) fun q36 h37 => ?_
    clear h35
    refine b0 (.X 7 22 0 0 <| .C 8 6 <| .nil) [(6, .int .i64 (((digs s.data.toList).getD ((digs s.data.toList).length - 1 - k) 0 : Nat) : Int)), (12, .bool (decide (((k : Nat) : Int) < (((digs s.data.toList).length : Nat) : Int)))), (3, .slice (some ad) ((digs s.data.toList).length) c), (5, .int .i64 ((k : Nat) : Int)), (4, .int .i64 ((lSum (digs s.data.toList) k : Nat) : Int))] h37 ((Kw.nil hB24).cons (hE0.below hB24.bel)) fun q38 h39 => ?_
    clear h37
    refine wpO_end ?_
    refine then_n ?_
    refine kS ?_
    refine kS ?_
    refine rp 3 ?_
    refine b0 (.C 0 23 <| .E 1 24 (.int .i64 (Int.tmod ((k : Nat) : Int) (2 : Int))) <| .E 2 25 (.bool (Int.tmod ((k : Nat) : Int) (2 : Int) == (0 : Int))) <| .nil) [(25, .bool (Int.tmod ((k : Nat) : Int) (2 : Int) == (0 : Int))), (6, .int .i64 (((digs s.data.toList).getD ((digs s.data.toList).length - 1 - k) 0 : Nat) : Int)), (12, .bool (decide (((k : Nat) : Int) < (((digs s.data.toList).length : Nat) : Int)))), (3, .slice (some ad) ((digs s.data.toList).length) c), (5, .int .i64 ((k : Nat) : Int)), (4, .int .i64 ((lSum (digs s.data.toList) k : Nat) : Int))] h39 (Kw.nil hB24) fun q40 h41 => ?_
    clear h39
    refine wpO_end ?_
    refine then_n ?_
    refine kC 25 (Int.tmod ((k : Nat) : Int) (2 : Int) == (0 : Int)) h41 (fun hc42 => ?_) (fun hc42 => ?_)
    ·
      have hpar := hc42
      rw [par_eq] at hpar
      refine rp 3 ?_
      refine b0 (.C 0 26 <| .E 1 27 (.int .i64 (IntKind.i64.wrap (2 * (((digs s.data.toList).getD ((digs s.data.toList).length - 1 - k) 0 : Nat) : Int)))) <| .C 2 6 <| .nil) [(6, .int .i64 (IntKind.i64.wrap (2 * (((digs s.data.toList).getD ((digs s.data.toList).length - 1 - k) 0 : Nat) : Int)))), (25, .bool (Int.tmod ((k : Nat) : Int) (2 : Int) == (0 : Int))), (12, .bool (decide (((k : Nat) : Int) < (((digs s.data.toList).length : Nat) : Int)))), (3, .slice (some ad) ((digs s.data.toList).length) c), (5, .int .i64 ((k : Nat) : Int)), (4, .int .i64 ((lSum (digs s.data.toList) k : Nat) : Int))] h41 (Kw.nil hB24) fun q43 h44 => ?_
      clear h41
      refine wpO_end ?_
      refine then_n ?_
      refine rp 8 ?_
      refine b0 (.C 0 28 <| .C 1 29 <| .E 2 30 (.int .i64 (IntKind.i64.wrap (Int.tdiv (IntKind.i64.wrap (2 * (((digs s.data.toList).getD ((digs s.data.toList).length - 1 - k) 0 : Nat) : Int))) (10 : Int)))) <| .E 3 31 (.int .i64 (IntKind.i64.wrap (((lSum (digs s.data.toList) k : Nat) : Int) + (IntKind.i64.wrap (Int.tdiv (IntKind.i64.wrap (2 * (((digs s.data.toList).getD ((digs s.data.toList).length - 1 - k) 0 : Nat) : Int))) (10 : Int)))))) <| .C 4 32 <| .E 5 33 (.int .i64 (Int.tmod (IntKind.i64.wrap (2 * (((digs s.data.toList).getD ((digs s.data.toList).length - 1 - k) 0 : Nat) : Int))) (10 : Int))) <| .E 6 34 (.int .i64 (IntKind.i64.wrap ((IntKind.i64.wrap (((lSum (digs s.data.toList) k : Nat) : Int) + (IntKind.i64.wrap (Int.tdiv (IntKind.i64.wrap (2 * (((digs s.data.toList).getD ((digs s.data.toList).length - 1 - k) 0 : Nat) : Int))) (10 : Int))))) + (Int.tmod (IntKind.i64.wrap (2 * (((digs s.data.toList).getD ((digs s.data.toList).length - 1 - k) 0 : Nat) : Int))) (10 : Int))))) <| .C 7 4 <| .nil) [(4, .int .i64 (IntKind.i64.wrap ((IntKind.i64.wrap (((lSum (digs s.data.toList) k : Nat) : Int) + (IntKind.i64.wrap (Int.tdiv (IntKind.i64.wrap (2 * (((digs s.data.toList).getD ((digs s.data.toList).length - 1 - k) 0 : Nat) : Int))) (10 : Int))))) + (Int.tmod (IntKind.i64.wrap (2 * (((digs s.data.toList).getD ((digs s.data.toList).length - 1 - k) 0 : Nat) : Int))) (10 : Int))))), (6, .int .i64 (IntKind.i64.wrap (2 * (((digs s.data.toList).getD ((digs s.data.toList).length - 1 - k) 0 : Nat) : Int)))), (25, .bool (Int.tmod ((k : Nat) : Int) (2 : Int) == (0 : Int))), (12, .bool (decide (((k : Nat) : Int) < (((digs s.data.toList).length : Nat) : Int)))), (3, .slice (some ad) ((digs s.data.toList).length) c), (5, .int .i64 ((k : Nat) : Int))] h44 (Kw.nil hB24) fun q45 h46 => ?_
      clear h44
      refine wpO_end ?_
      refine inB_n ?_
      refine then_n ?_
      refine rp 3 ?_
      refine b0 (.C 0 13 <| .E 1 14 (.int .i64 (IntKind.i64.wrap (((k : Nat) : Int) + 1))) <| .C 2 5 <| .nil) [(5, .int .i64 (IntKind.i64.wrap (((k : Nat) : Int) + 1))), (4, .int .i64 (IntKind.i64.wrap ((IntKind.i64.wrap (((lSum (digs s.data.toList) k : Nat) : Int) + (IntKind.i64.wrap (Int.tdiv (IntKind.i64.wrap (2 * (((digs s.data.toList).getD ((digs s.data.toList).length - 1 - k) 0 : Nat) : Int))) (10 : Int))))) + (Int.tmod (IntKind.i64.wrap (2 * (((digs s.data.toList).getD ((digs s.data.toList).length - 1 - k) 0 : Nat) : Int))) (10 : Int))))), (6, .int .i64 (IntKind.i64.wrap (2 * (((digs s.data.toList).getD ((digs s.data.toList).length - 1 - k) 0 : Nat) : Int)))), (25, .bool (Int.tmod ((k : Nat) : Int) (2 : Int) == (0 : Int))), (12, .bool (decide (((k : Nat) : Int) < (((digs s.data.toList).length : Nat) : Int)))), (3, .slice (some ad) ((digs s.data.toList).length) c)] h46 (Kw.nil hB24) fun q47 h48 => ?_
      clear h46
      refine wpO_end ?_
      have h49 := h48.keep [(3, .slice (some ad) ((digs s.data.toList).length) c), (5, .int .i64 (((k + 1) : Nat) : Int)), (4, .int .i64 ((lSum (digs s.data.toList) (k + 1) : Nat) : Int))] ⟨rfl, look_int rfl (wrap_succ (by omega)), look_int rfl (l_round2 k _ _ (IntKind.i64.wrap (2 * (((digs s.data.toList).getD ((digs s.data.toList).length - 1 - k) 0 : Nat) : Int))) ⟨fun _ => (by rw [wrap_i64 (by omega) (by omega)]; omega), fun hh => absurd (by simpa using hpar) hh⟩ hd hS (by omega)), trivial⟩
      have hm50 := h49.int (k := 5) (kd := .i64) (z := (((k + 1) : Nat) : Int)) rfl
      refine then_n ⟨⟨k + 1, by omega, h49, hB24⟩, ?_⟩
      show ((((digs s.data.toList).length : Int)) - intAt _ 5).toNat < ((((digs s.data.toList).length : Int)) - intAt _ 5).toNat
      rw [hm26, hm50]; omega
    have hpar := hc42
    rw [par_eq] at hpar
    refine c_skip (by kernel_rfl) ?_
    refine then_n ?_
    refine rp 8 ?_
    refine b0 (.C 0 28 <| .C 1 29 <| .E 2 30 (.int .i64 (IntKind.i64.wrap (Int.tdiv (((digs s.data.toList).getD ((digs s.data.toList).length - 1 - k) 0 : Nat) : Int) (10 : Int)))) <| .E 3 31 (.int .i64 (IntKind.i64.wrap (((lSum (digs s.data.toList) k : Nat) : Int) + (IntKind.i64.wrap (Int.tdiv (((digs s.data.toList).getD ((digs s.data.toList).length - 1 - k) 0 : Nat) : Int) (10 : Int)))))) <| .C 4 32 <| .E 5 33 (.int .i64 (Int.tmod (((digs s.data.toList).getD ((digs s.data.toList).length - 1 - k) 0 : Nat) : Int) (10 : Int))) <| .E 6 34 (.int .i64 (IntKind.i64.wrap ((IntKind.i64.wrap (((lSum (digs s.data.toList) k : Nat) : Int) + (IntKind.i64.wrap (Int.tdiv (((digs s.data.toList).getD ((digs s.data.toList).length - 1 - k) 0 : Nat) : Int) (10 : Int))))) + (Int.tmod (((digs s.data.toList).getD ((digs s.data.toList).length - 1 - k) 0 : Nat) : Int) (10 : Int))))) <| .C 7 4 <| .nil) [(4, .int .i64 (IntKind.i64.wrap ((IntKind.i64.wrap (((lSum (digs s.data.toList) k : Nat) : Int) + (IntKind.i64.wrap (Int.tdiv (((digs s.data.toList).getD ((digs s.data.toList).length - 1 - k) 0 : Nat) : Int) (10 : Int))))) + (Int.tmod (((digs s.data.toList).getD ((digs s.data.toList).length - 1 - k) 0 : Nat) : Int) (10 : Int))))), (25, .bool (Int.tmod ((k : Nat) : Int) (2 : Int) == (0 : Int))), (6, .int .i64 (((digs s.data.toList).getD ((digs s.data.toList).length - 1 - k) 0 : Nat) : Int)), (12, .bool (decide (((k : Nat) : Int) < (((digs s.data.toList).length : Nat) : Int)))), (3, .slice (some ad) ((digs s.data.toList).length) c), (5, .int .i64 ((k : Nat) : Int))] h41 (Kw.nil hB24) fun q51 h52 => ?_
    clear h41
    refine wpO_end ?_
    refine inB_n ?_
    refine then_n ?_
    refine rp 3 ?_
    refine b0 (.C 0 13 <| .E 1 14 (.int .i64 (IntKind.i64.wrap (((k : Nat) : Int) + 1))) <| .C 2 5 <| .nil) [(5, .int .i64 (IntKind.i64.wrap (((k : Nat) : Int) + 1))), (4, .int .i64 (IntKind.i64.wrap ((IntKind.i64.wrap (((lSum (digs s.data.toList) k : Nat) : Int) + (IntKind.i64.wrap (Int.tdiv (((digs s.data.toList).getD ((digs s.data.toList).length - 1 - k) 0 : Nat) : Int) (10 : Int))))) + (Int.tmod (((digs s.data.toList).getD ((digs s.data.toList).length - 1 - k) 0 : Nat) : Int) (10 : Int))))), (25, .bool (Int.tmod ((k : Nat) : Int) (2 : Int) == (0 : Int))), (6, .int .i64 (((digs s.data.toList).getD ((digs s.data.toList).length - 1 - k) 0 : Nat) : Int)), (12, .bool (decide (((k : Nat) : Int) < (((digs s.data.toList).length : Nat) : Int)))), (3, .slice (some ad) ((digs s.data.toList).length) c)] h52 (Kw.nil hB24) fun q53 h54 => ?_
    clear h52
    refine wpO_end ?_
    have h55 := h54.keep [(3, .slice (some ad) ((digs s.data.toList).length) c), (5, .int .i64 (((k + 1) : Nat) : Int)), (4, .int .i64 ((lSum (digs s.data.toList) (k + 1) : Nat) : Int))] ⟨rfl, look_int rfl (wrap_succ (by omega)), look_int rfl (l_round2 k _ _ ((((digs s.data.toList).getD ((digs s.data.toList).length - 1 - k) 0 : Nat) : Int)) ⟨fun hh => (by rw [hh] at hpar; cases hpar), fun _ => rfl⟩ hd hS (by omega)), trivial⟩
    have hm56 := h55.int (k := 5) (kd := .i64) (z := (((k + 1) : Nat) : Int)) rfl
    refine then_n ⟨⟨k + 1, by omega, h55, hB24⟩, ?_⟩
    show ((((digs s.data.toList).length : Int)) - intAt _ 5).toNat < ((((digs s.data.toList).length : Int)) - intAt _ 5).toNat
    rw [hm26, hm56]; omega
  have hp57 : ¬ (((k : Nat) : Int) < (((digs s.data.toList).length : Nat) : Int)) := of_decide_eq_false hc29
  obtain rfl : k = (digs s.data.toList).length := by omega
  refine c_exit 0 (by kernel_rfl) ?_
  refine then_e (then_e (inB_hit ?_))
  refine then_n ?_
  refine kS ?_
  refine rp 5 ?_
  refine b0 (.C 0 35 <| .E 1 36 (.int .i64 (Int.tmod ((lSum (digs s.data.toList) (digs s.data.toList).length : Nat) : Int) (10 : Int))) <| .E 2 37 (.int .i64 (IntKind.i64.wrap (10 - (Int.tmod ((lSum (digs s.data.toList) (digs s.data.toList).length : Nat) : Int) (10 : Int))))) <| .nil) [(37, .int .i64 (IntKind.i64.wrap (10 - (Int.tmod ((lSum (digs s.data.toList) (digs s.data.toList).length : Nat) : Int) (10 : Int)))))] h28 (Kw.nil hB24) fun q58 h59 => ?_
  clear h28
  refine eE 3 38 (.binOp .rem 3 (.tmp 37) (.const (.int .i64 10)) 3) 3 (.int .i64 (Int.tmod (IntKind.i64.wrap (10 - (Int.tmod ((lSum (digs s.data.toList) (digs s.data.toList).length : Nat) : Int) (10 : Int)))) (10 : Int))) h59 fun q60 h61 => ?_
  clear h59
  have h62 := h61.keep [(38, .int .i64 ((luhnD s.data.toList : Nat) : Int)), (37, .int .i64 (IntKind.i64.wrap (10 - (Int.tmod ((lSum (digs s.data.toList) (digs s.data.toList).length : Nat) : Int) (10 : Int)))))] ⟨look_int rfl (luhn_end _ (by have := lSum_le (digs s.data.toList) (digs_lt _ hC) (digs s.data.toList).length; omega)), rfl, trivial⟩
  clear h61
  refine b0 (.C 4 2 <| .nil) [(2, .int .i64 ((luhnD s.data.toList : Nat) : Int))] h62 (Kw.nil hB24) fun q63 h64 => ?_
  clear h62
  refine wpO_end ?_
  refine then_n ?_
  refine c_ret (by kernel_rfl) ?_
  refine ret1 (t := 2) (v := .int .i64 ((luhnD s.data.toList : Nat) : Int)) h64 (by kernel_rfl) (by kernel_rfl) ?_
  exact ⟨rfl, (hbl14.trans (hB24.bel.mono hbl14.size))⟩

end Go.Proofs.YtljegdokbifoiaaGreatDoor.Af

namespace Go.Proofs.YtljegdokbifoiaaGreatDoor.Af
open Go.RowKit
theorem refb_bad1 (s : ByteArray) {e : Int} (h : pfxE (clsOf sp1) 4 s = e) : (e == 0) = memB s := by unfold memB; rw [h]
theorem refb_bad2 (s : ByteArray) {e : Int} (h : pfxE (clsOf sp2) 1 s = e) : (e == 0) = rfB s := by unfold rfB; rw [h]
theorem refb_ok1 (s : ByteArray) (h : pfxE (clsOf sp1) 4 s = 0) : ((0 : Int) == 0) = memB s := by unfold memB; rw [h]
theorem refb_ok2 (s : ByteArray) (h : pfxE (clsOf sp2) 1 s = 0) : ((0 : Int) == 0) = rfB s := by unfold rfB; rw [h]
theorem isin_bad (s : ByteArray) {e : Int} (h : pfxE (clsOf sp0) 12 s = e) (he : (e == 0) = false) : (e == 0) = isinB s := by
  unfold isinB
  rw [h, he, Bool.false_and]
theorem isin_r (s : ByteArray) (b : Bool) (h : pfxE (clsOf sp0) 12 s = 0) (e : Int) (h2 : (IntKind.i64.wrap (IntKind.u8.wrap ((((chAt s 11).toNat : Nat) : Int) - 48)) != ((luhnD (s.extract 0 11).data.toList : Nat) : Int)) = b) (he : (e == 0) = !b) : (e == 0) = isinB s := by
  refine isin_q s b e he (by rw [h]; rfl) ?_
  rw [← chk_digit s h]
  exact h2

set_option maxHeartbeats 4000000 in
set_option maxRecDepth 20000 in
theorem c63_0 (s : ByteArray) (w : World) : Calls Tryz.prog 102 #[.int .i64 0, .string s] w (fun e w' => ∃ at' E : Int, e = .returned (.tuple #[.int .i64 at', .int .i64 E]) ∧ (E == 0) = isinB s ∧ Below w.heap.size w w') := by
  refine enter Tryz.func102 (by kernel_rfl) ?_ (by kernel_rfl)
  intro q0 h0
  replace h0 := h0.conv (l' := [(0, .int .i64 0), (1, .string s)]) rfl
  have hB := Bx.refl w
  refine kS ?_
  refine rp 2 ?_
  refine b0 (.C 0 4 <| .C 1 5 <| .nil) [(5, .int .i64 0), (4, .int .i64 0), (0, .int .i64 0), (1, .string s)] h0 (Kw.nil hB) fun q1 h2 => ?_
  clear h0
  refine wpO_end ?_
  refine then_n ?_
  refine kS ?_
  refine kS ?_
  refine rp 6 ?_
  refine b1 11 (rfl : false = false) (.C 0 9 <| .E 1 10 (.bool false) <| .C 2 11 <| .C 3 12 <| .E 4 13 (.bool false) <| .E 5 14 (.bool false) <| .nil) [(14, .bool false), (5, .int .i64 0), (4, .int .i64 0), (0, .int .i64 0), (1, .string s)] h2 (Kw.nil hB) fun q3 h4 => ?_
  clear h2
  refine wpO_end ?_
  refine then_n ?_
  refine kC 14 false h4 (fun e5 => Bool.noConfusion (e5.symm.trans (rfl))) (fun _ => ?_)
  refine c_skip (by kernel_rfl) ?_
  refine then_n ?_
  refine kS ?_
  refine rp 7 ?_
  refine b0 (.C 0 16 <| .nil) [(16, .int .i64 0), (5, .int .i64 0), (4, .int .i64 0), (0, .int .i64 0), (1, .string s)] h4 (Kw.nil hB) fun q6 h7 => ?_
  clear h4
  refine sC 1 17 h7 gok_none (c70_0 w) ?_
  rintro _ w10 ⟨rfl, hb11⟩
  have hB12 := hB.call hb11
  refine ⟨_, rfl, trivial, fun q8 h9 => ?_⟩
  clear h7 hB hb11
  refine b0 (.C 2 15 <| .E 3 18 (.int .i64 12) <| .E 4 19 (.int .i64 12) <| .C 5 6 <| .C 6 7 <| .nil) [(7, .int .i64 12), (6, .int .i64 12), (5, .int .i64 0), (4, .int .i64 0), (0, .int .i64 0), (1, .string s)] h9 (Kw.nil hB12) fun q13 h14 => ?_
  clear h9
  refine wpO_end ?_
  refine then_n ?_
  refine kS ?_
  refine kS ?_
  refine rp 1 ?_
  refine b0 (.C 0 8 <| .nil) [(8, .int .i64 0), (7, .int .i64 12), (6, .int .i64 12), (5, .int .i64 0), (4, .int .i64 0), (0, .int .i64 0), (1, .string s)] h14 (Kw.nil hB12) fun q15 h16 => ?_
  clear h14
  refine wpO_end ?_
  refine then_n ?_
  refine c_block 0 (by kernel_rfl) ?_
  refine c_loop (by kernel_rfl) (fun qa qw => ∃ k : Nat, (k ≤ s.size) ∧ Fr 75 [(0, .int .i64 0), (1, .string s), (4, .int .i64 0), (5, .int .i64 0), (6, .int .i64 12), (7, .int .i64 12), (8, .int .i64 ((k : Nat) : Int))] qa ∧ Bx w [] qw ∧ (∀ (j : Nat) (g : Nat) (c : UInt8), j < k → (clsOf sp0)[j]? = some g → s.data.toList[j]? = some c → clsB g (c.toNat : Int) = true)) (fun qa _ => (((s.size : Int)) - intAt qa 8).toNat) ⟨0, Nat.zero_le _, h16.keep _ ⟨rfl, rfl, rfl, rfl, rfl, rfl, rfl, trivial⟩, hB12, fun j _ _ hj => absurd hj (Nat.not_lt_zero _)⟩ ?_
  rintro q17 w18 ⟨k, hk21, h19, hB20, hx23⟩
  have hm22 := h19.int (k := 8) (kd := .i64) (z := ((k : Nat) : Int)) rfl
  clear h16 hB12
  refine kS ?_
  refine kS ?_
  refine rp 9 ?_
  refine b0 (.C 0 20 <| .C 1 21 <| .E 2 22 (.int .i64 ((s.size : Nat) : Int)) <| .E 3 23 (.bool (decide (((k : Nat) : Int) < ((s.size : Nat) : Int)))) <| .C 4 24 <| .J 8 28 24 27 true (decide (((k : Nat) : Int) < ((s.size : Nat) : Int))) (decide (((k : Nat) : Int) < (12 : Int))) (.C 5 25 <| .C 6 26 <| .E 7 27 (.bool (decide (((k : Nat) : Int) < (12 : Int)))) <| .nil) <| .nil) [(28, .bool ((decide (((k : Nat) : Int) < ((s.size : Nat) : Int))) && (decide (((k : Nat) : Int) < (12 : Int))))), (0, .int .i64 0), (1, .string s), (4, .int .i64 0), (5, .int .i64 0), (6, .int .i64 12), (7, .int .i64 12), (8, .int .i64 ((k : Nat) : Int))] h19 (Kw.nil hB20) fun q24 h25 => ?_
  clear h19
  refine wpO_end ?_
  refine then_n ?_
  refine kC 28 ((decide (((k : Nat) : Int) < ((s.size : Nat) : Int))) && (decide (((k : Nat) : Int) < (12 : Int)))) h25 (fun hc26 => ?_) (fun hc26 => ?_)
  ·
    have hlt : k < s.size ∧ k < 12 := by have := hc26; simp at this; omega
    obtain ⟨x, hx⟩ : ∃ x, (clsOf sp0)[k]? = some x := ⟨(clsOf sp0)[k]'hlt.2, List.getElem?_eq_getElem (show k < (clsOf sp0).length from hlt.2)⟩
    refine c_skip (by kernel_rfl) ?_
    refine then_n ?_
    refine kS ?_
    refine c_block 1 (by kernel_rfl) ?_
    refine kS ?_
    refine rp 7 ?_
    refine b0 (.C 0 31 <| .C 1 32 <| .C 2 33 <| .C 3 34 <| .nil) [(34, .int .i64 ((k : Nat) : Int)), (33, .string s), (32, .int .i64 ((k : Nat) : Int)), (31, .int .i64 0), (28, .bool ((decide (((k : Nat) : Int) < ((s.size : Nat) : Int))) && (decide (((k : Nat) : Int) < (12 : Int))))), (0, .int .i64 0), (1, .string s), (4, .int .i64 0), (5, .int .i64 0), (6, .int .i64 12), (7, .int .i64 12), (8, .int .i64 ((k : Nat) : Int))] h25 (Kw.nil hB20) fun q27 h28 => ?_
    clear h25
    refine eE 4 35 (.index 9 (.tmp 33) (.tmp 34)) 5 (.int .u8 (((chAt s k).toNat : Nat) : Int)) h28 (hr := r_indexS (kd := .i64) (i := k) (b := (chAt s k)) (by kernel_rfl) (by kernel_rfl) (getS (by omega)) (by kernel_rfl)) fun q29 h30 => ?_
    clear h28
    refine sC 5 36 h30 gok_none (c71_0 ((k : Nat) : Int) (((chAt s k).toNat : Nat) : Int) w18) ?_
    rintro _ w33 ⟨rfl, hb34⟩
    have hB35 := hB20.call hb34
    refine ⟨_, rfl, trivial, fun q31 h32 => ?_⟩
    clear h30 hB20 hb34
    refine b0 (.E 6 37 (.bool (!(mayB 0 ((k : Nat) : Int) (((chAt s k).toNat : Nat) : Int)))) <| .nil) [(37, .bool (!(mayB 0 ((k : Nat) : Int) (((chAt s k).toNat : Nat) : Int)))), (28, .bool ((decide (((k : Nat) : Int) < ((s.size : Nat) : Int))) && (decide (((k : Nat) : Int) < (12 : Int))))), (0, .int .i64 0), (1, .string s), (4, .int .i64 0), (5, .int .i64 0), (6, .int .i64 12), (7, .int .i64 12), (8, .int .i64 ((k : Nat) : Int))] h32 (Kw.nil hB35) fun q36 h37 => ?_
    clear h32
    refine wpO_end ?_
    refine then_n ?_
    refine kC 37 (!(mayB 0 ((k : Nat) : Int) (((chAt s k).toNat : Nat) : Int))) h37 (fun hc38 => ?_) (fun hc38 => ?_)
    ·
      rw [may_cls 0 (by decide) k x _ hx] at hc38
      refine kS ?_
      refine rp 3 ?_
      refine b0 (.C 0 38 <| .C 1 4 <| .C 2 5 <| .nil) [(5, .int .i64 3), (4, .int .i64 ((k : Nat) : Int)), (37, .bool (!(mayB 0 ((k : Nat) : Int) (((chAt s k).toNat : Nat) : Int)))), (28, .bool ((decide (((k : Nat) : Int) < ((s.size : Nat) : Int))) && (decide (((k : Nat) : Int) < (12 : Int))))), (0, .int .i64 0), (1, .string s), (6, .int .i64 12), (7, .int .i64 12), (8, .int .i64 ((k : Nat) : Int))] h37 (Kw.nil hB35) fun q39 h40 => ?_
      clear h37
      refine wpO_end ?_
      refine then_n ?_
      refine c_ret (by kernel_rfl) ?_
      refine inB_r (then_r (then_r (inB_r (then_r ?_))))
      refine ret2 (t := 4) (u := 5) (v := .int .i64 ((k : Nat) : Int)) (v' := .int .i64 3) h40 (by kernel_rfl) (by kernel_rfl) (by kernel_rfl) ?_
      exact ⟨_, _, rfl, isin_bad s (pfx_bad (sh := 12) hx (by rw [decide_eq_true (by omega), Bool.true_and]; exact hc38)) rfl, hB35.bel⟩
    rw [may_cls 0 (by decide) k x _ hx] at hc38
    refine c_skip (by kernel_rfl) ?_
    refine inB_n ?_
    refine then_n ?_
    refine rp 3 ?_
    refine b0 (.C 0 29 <| .E 1 30 (.int .i64 (IntKind.i64.wrap (((k : Nat) : Int) + 1))) <| .C 2 8 <| .nil) [(8, .int .i64 (IntKind.i64.wrap (((k : Nat) : Int) + 1))), (37, .bool (!(mayB 0 ((k : Nat) : Int) (((chAt s k).toNat : Nat) : Int)))), (28, .bool ((decide (((k : Nat) : Int) < ((s.size : Nat) : Int))) && (decide (((k : Nat) : Int) < (12 : Int))))), (0, .int .i64 0), (1, .string s), (4, .int .i64 0), (5, .int .i64 0), (6, .int .i64 12), (7, .int .i64 12)] h37 (Kw.nil hB35) fun q41 h42 => ?_
    clear h37
    refine wpO_end ?_
    have h43 := h42.keep [(0, .int .i64 0), (1, .string s), (4, .int .i64 0), (5, .int .i64 0), (6, .int .i64 12), (7, .int .i64 12), (8, .int .i64 (((k + 1) : Nat) : Int))] ⟨rfl, rfl, rfl, rfl, rfl, rfl, look_int rfl (wrap_succ (by have := hlt.2; omega)), trivial⟩
    have hm44 := h43.int (k := 8) (kd := .i64) (z := (((k + 1) : Nat) : Int)) rfl
    refine then_n ⟨⟨k + 1, by omega, h43, hB35, pfx_step hx23 hx (by rw [decide_eq_true (by omega), Bool.true_and]; exact hc38)⟩, ?_⟩
    show (((s.size : Int)) - intAt _ 8).toNat < (((s.size : Int)) - intAt _ 8).toNat
    rw [hm22, hm44]; omega
  have hend : s.size ≤ k ∨ 12 ≤ k := by have := hc26; simp at this; omega
  have hpf := pfx_ok2 (cl := (clsOf sp0)) (sh := 12) hx23 hend
  refine c_exit 0 (by kernel_rfl) ?_
  refine then_e (then_e (inB_hit ?_))
  refine then_n ?_
  refine kS ?_
  refine kS ?_
  refine rp 4 ?_
  refine b0 (.C 0 39 <| .E 1 40 (.int .i64 ((s.size : Nat) : Int)) <| .C 2 41 <| .E 3 42 (.bool (decide (((s.size : Nat) : Int) < (12 : Int)))) <| .nil) [(42, .bool (decide (((s.size : Nat) : Int) < (12 : Int)))), (0, .int .i64 0), (1, .string s), (4, .int .i64 0), (5, .int .i64 0), (7, .int .i64 12)] h25 (Kw.nil hB20) fun q45 h46 => ?_
  clear h25
  refine wpO_end ?_
  refine then_n ?_
  refine kC 42 (decide (((s.size : Nat) : Int) < (12 : Int))) h46 (fun hc47 => ?_) (fun hc47 => ?_)
  ·
    have hp48 : (((s.size : Nat) : Int) < (12 : Int)) := of_decide_eq_true hc47
    refine kS ?_
    refine rp 4 ?_
    refine b0 (.C 0 43 <| .E 1 44 (.int .i64 ((s.size : Nat) : Int)) <| .C 2 4 <| .C 3 5 <| .nil) [(5, .int .i64 4), (4, .int .i64 ((s.size : Nat) : Int)), (0, .int .i64 0), (1, .string s), (7, .int .i64 12)] h46 (Kw.nil hB20) fun q49 h50 => ?_
    clear h46
    refine wpO_end ?_
    refine then_n ?_
    refine c_ret (by kernel_rfl) ?_
    refine then_r ?_
    refine ret2 (t := 4) (u := 5) (v := .int .i64 ((s.size : Nat) : Int)) (v' := .int .i64 4) h50 (by kernel_rfl) (by kernel_rfl) (by kernel_rfl) ?_
    exact ⟨_, _, rfl, isin_bad s (show pfxE (clsOf sp0) 12 s = 4 from hpf.trans (cT hc47)) rfl, hB20.bel⟩
  have hp51 : ¬ (((s.size : Nat) : Int) < (12 : Int)) := of_decide_eq_false hc47
  refine c_skip (by kernel_rfl) ?_
  refine then_n ?_
  refine kS ?_
  refine kS ?_
  refine rp 4 ?_
  refine b0 (.C 0 45 <| .E 1 46 (.int .i64 ((s.size : Nat) : Int)) <| .C 2 47 <| .E 3 48 (.bool (decide ((12 : Int) < ((s.size : Nat) : Int)))) <| .nil) [(48, .bool (decide ((12 : Int) < ((s.size : Nat) : Int)))), (0, .int .i64 0), (1, .string s), (4, .int .i64 0), (5, .int .i64 0), (7, .int .i64 12)] h46 (Kw.nil hB20) fun q52 h53 => ?_
  clear h46
  refine wpO_end ?_
  refine then_n ?_
  refine kC 48 (decide ((12 : Int) < ((s.size : Nat) : Int))) h53 (fun hc54 => ?_) (fun hc54 => ?_)
  ·
    have hp55 : ((12 : Int) < ((s.size : Nat) : Int)) := of_decide_eq_true hc54
    refine kS ?_
    refine rp 3 ?_
    refine b0 (.C 0 49 <| .C 1 4 <| .C 2 5 <| .nil) [(5, .int .i64 5), (4, .int .i64 12), (0, .int .i64 0), (1, .string s)] h53 (Kw.nil hB20) fun q56 h57 => ?_
    clear h53
    refine wpO_end ?_
    refine then_n ?_
    refine c_ret (by kernel_rfl) ?_
    refine then_r ?_
    refine ret2 (t := 4) (u := 5) (v := .int .i64 12) (v' := .int .i64 5) h57 (by kernel_rfl) (by kernel_rfl) (by kernel_rfl) ?_
    exact ⟨_, _, rfl, isin_bad s (show pfxE (clsOf sp0) 12 s = 5 from hpf.trans ((cF hc47).trans (cT hc54))) rfl, hB20.bel⟩
  have hp58 : ¬ ((12 : Int) < ((s.size : Nat) : Int)) := of_decide_eq_false hc54
  have h0 : pfxE (clsOf sp0) 12 s = 0 := by rw [hpf, cF hc47, show ((clsOf sp0).length : Int) = 12 from rfl, cF hc54]
  have hbody := isin_body s h0
  have hsz := hbody.1
  refine c_skip (by kernel_rfl) ?_
  refine then_n ?_
  refine kS ?_
  refine kS ?_
  have hD59 := hB20.drew
  refine rd (Bx w []) 12 [⟨0, true, 0, 1, 1125899906842624⟩, ⟨1, true, 1, 1125899906842624, 2251799813685248⟩, ⟨2, true, 2, 2251799813685248, 4503599627370496⟩, ⟨3, true, 4, 4503599627370498, 9007199254740992⟩, ⟨4, true, 12, 13510798882111488, 18014398509481984⟩, ⟨5, true, 20, 22517998136852480, 36028797018963968⟩, ⟨6, true, 36, 40532396646334464, 72057594037927936⟩, ⟨7, true, 4, 4503599627370498, 144115188075855872⟩, ⟨8, true, 132, 148618787703226368, 288230376151711744⟩, ⟨9, false, 260, 292733975779082240, 576460752303423488⟩, ⟨10, true, 580, 653021945968721920, 1152921504606846976⟩, ⟨11, true, 1028, 1157425104234217472, 2305843009213693952⟩] hD59 ?_
  generalize World.drew w18 = w60 at hD59 ⊢
  refine d1 52 (rfl : true = true) (.C 0 50 <| .E 1 51 (.bool true) <| .C 2 52 <| .C 3 53 <| .nil) [(53, .string s), (52, .bool true), (0, .int .i64 0), (1, .string s), (4, .int .i64 0), (5, .int .i64 0)] h53 (fun _ hS => Kw.nil hS) fun q61 h62 => ?_
  clear h53
  refine fG 4 54 (.index 9 (.tmp 53) (.const (.int .i64 11))) 5 (2, true) (.int .u8 (((chAt s 11).toNat : Nat) : Int)) (g1 52 (rfl : true = true)) h62 (hr := fun _ hS => r_indexS (kd := .i64) (i := 11) (b := (chAt s 11)) (by kernel_rfl) (by kernel_rfl) (getS (by omega)) (by kernel_rfl)) fun q63 h64 => ?_
  clear h62
  refine d1 52 (rfl : true = true) (.E 5 55 (.int .u8 (IntKind.u8.wrap ((((chAt s 11).toNat : Nat) : Int) - 48))) <| .E 6 56 (.int .i64 (IntKind.i64.wrap (IntKind.u8.wrap ((((chAt s 11).toNat : Nat) : Int) - 48)))) <| .C 7 57 <| .nil) [(57, .string s), (56, .int .i64 (IntKind.i64.wrap (IntKind.u8.wrap ((((chAt s 11).toNat : Nat) : Int) - 48)))), (52, .bool true), (0, .int .i64 0), (1, .string s), (4, .int .i64 0), (5, .int .i64 0)] h64 (fun _ hS => Kw.nil hS) fun q65 h66 => ?_
  clear h64
  refine fG 8 58 (.slice 9 (.tmp 57) none (some (.const (.int .i64 11))) none) 9 (2, true) (.string (s.extract 0 11)) (g1 52 (rfl : true = true)) h66 (hr := fun _ hS => r_sliceSHi (kd := .i64) (i := 11) (by kernel_rfl) (by kernel_rfl) (by omega) (by kernel_rfl)) fun q67 h68 => ?_
  clear h66
  refine sC 9 59 (g := (some (2, true))) h68 (g1 52 (rfl : true = true)) (c72 (s.extract 0 11) w60 (by rw [extract_size _ _ (by omega)]; omega) hbody.2) ?_
  rintro _ w71 ⟨rfl, hb72⟩
  have hB73 := hD59.call hb72
  refine ⟨_, rfl, hB73, fun q69 h70 => ?_⟩
  clear h68 hD59 hb72
  refine d1 52 (rfl : true = true) (.E 10 60 (.bool (IntKind.i64.wrap (IntKind.u8.wrap ((((chAt s 11).toNat : Nat) : Int) - 48)) != ((luhnD (s.extract 0 11).data.toList : Nat) : Int))) <| .E 11 61 (.bool (IntKind.i64.wrap (IntKind.u8.wrap ((((chAt s 11).toNat : Nat) : Int) - 48)) != ((luhnD (s.extract 0 11).data.toList : Nat) : Int))) <| .nil) [(61, .bool (IntKind.i64.wrap (IntKind.u8.wrap ((((chAt s 11).toNat : Nat) : Int) - 48)) != ((luhnD (s.extract 0 11).data.toList : Nat) : Int))), (0, .int .i64 0), (1, .string s), (4, .int .i64 0), (5, .int .i64 0)] h70 (fun _ hS => Kw.nil hS) fun q74 h75 => ?_
  clear h70
  refine wpO_end ?_
  refine then_n ?_
  refine kC 61 (IntKind.i64.wrap (IntKind.u8.wrap ((((chAt s 11).toNat : Nat) : Int) - 48)) != ((luhnD (s.extract 0 11).data.toList : Nat) : Int)) h75 (fun hc76 => ?_) (fun hc76 => ?_)
  ·
    refine kS ?_
    refine rp 2 ?_
    refine b0 (.C 0 4 <| .C 1 5 <| .nil) [(5, .int .i64 18), (4, .int .i64 11), (0, .int .i64 0), (1, .string s)] h75 (Kw.nil hB73) fun q77 h78 => ?_
    clear h75
    refine wpO_end ?_
    refine then_n ?_
    refine c_ret (by kernel_rfl) ?_
    refine then_r ?_
    refine ret2 (t := 4) (u := 5) (v := .int .i64 11) (v' := .int .i64 18) h78 (by kernel_rfl) (by kernel_rfl) (by kernel_rfl) ?_
    exact ⟨_, _, rfl, isin_r s true h0 18 hc76 rfl, hB73.bel⟩
  refine c_skip (by kernel_rfl) ?_
  refine then_n ?_
  refine kS ?_
  refine kS ?_
  have hD79 := hB73.drew
  refine rd (Bx w []) 13 [⟨0, true, 0, 1, 4611686018427387904⟩, ⟨1, true, 1, 4611686018427387904, 9223372036854775808⟩, ⟨2, true, 2, 9223372036854775808, 18446744073709551616⟩, ⟨3, true, 4, 18446744073709551618, 36893488147419103232⟩, ⟨4, true, 12, 55340232221128654848, 73786976294838206464⟩, ⟨5, true, 4, 18446744073709551618, 147573952589676412928⟩, ⟨6, true, 36, 166020696663385964544, 295147905179352825856⟩, ⟨7, true, 68, 313594649253062377472, 590295810358705651712⟩, ⟨8, false, 132, 608742554432415203328, 1180591620717411303424⟩, ⟨9, true, 260, 1199038364791120855040, 2361183241434822606848⟩, ⟨10, false, 772, 2379629985508532158464, 4722366482869645213696⟩, ⟨11, true, 1044, 4814600203238192971776, 9444732965739290427392⟩, ⟨12, true, 2052, 9463179709812999979008, 18889465931478580854784⟩] hD79 ?_
  generalize World.drew w71 = w80 at hD79 ⊢
  refine d1 64 (rfl : false = false) (.C 0 62 <| .E 1 63 (.bool false) <| .C 2 64 <| .K 3 65 <| .K 4 66 <| .K 5 67 <| .K 6 68 <| .K 7 69 <| .nil) [(69, undef), (66, undef), (64, .bool false), (4, .int .i64 0), (5, .int .i64 0)] h75 (fun _ hS => Kw.nil hS) fun q81 h82 => ?_
  clear h75
  refine kE 8 70 (2, true) (g3 64 (rfl : false = false)) h82 hD79 fun q83 h84 => ?_
  clear h82
  refine d1 64 (rfl : false = false) (.K 9 71 <| .nil) [(71, undef), (66, undef), (64, .bool false), (4, .int .i64 0), (5, .int .i64 0)] h84 (fun _ hS => Kw.nil hS) fun q85 h86 => ?_
  clear h84
  refine kE 10 72 (2, true) (g3 64 (rfl : false = false)) h86 hD79 fun q87 h88 => ?_
  clear h86
  refine d1 64 (rfl : false = false) (.K 11 73 <| .E 12 74 (.bool false) <| .nil) [(74, .bool false), (4, .int .i64 0), (5, .int .i64 0)] h88 (fun _ hS => Kw.nil hS) fun q89 h90 => ?_
  clear h88
  refine wpO_end ?_
  refine then_n ?_
  refine kC 74 false h90 (fun e91 => Bool.noConfusion (e91.symm.trans (rfl))) (fun _ => ?_)
  refine c_skip (by kernel_rfl) ?_
  refine then_n ?_
  refine kS ?_
  refine rp 2 ?_
  refine b0 (.C 0 4 <| .C 1 5 <| .nil) [(5, .int .i64 0), (4, .int .i64 0)] h90 (Kw.nil hD79) fun q92 h93 => ?_
  clear h90
  refine wpO_end ?_
  refine then_n ?_
  refine c_ret (by kernel_rfl) ?_
  refine ret2 (t := 4) (u := 5) (v := .int .i64 0) (v' := .int .i64 0) h93 (by kernel_rfl) (by kernel_rfl) (by kernel_rfl) ?_
  exact ⟨_, _, rfl, isin_r s false h0 0 hc76 rfl, hD79.bel⟩

set_option maxHeartbeats 4000000 in
set_option maxRecDepth 20000 in
theorem c63_1 (s : ByteArray) (w : World) : Calls Tryz.prog 102 #[.int .i64 1, .string s] w (fun e w' => ∃ at' E : Int, e = .returned (.tuple #[.int .i64 at', .int .i64 E]) ∧ (E == 0) = memB s ∧ Below w.heap.size w w') := by
  refine enter Tryz.func102 (by kernel_rfl) ?_ (by kernel_rfl)
  intro q0 h0
  replace h0 := h0.conv (l' := [(0, .int .i64 1), (1, .string s)]) rfl
  have hB := Bx.refl w
  refine kS ?_
  refine rp 2 ?_
  refine b0 (.C 0 4 <| .C 1 5 <| .nil) [(5, .int .i64 0), (4, .int .i64 0), (0, .int .i64 1), (1, .string s)] h0 (Kw.nil hB) fun q1 h2 => ?_
  clear h0
  refine wpO_end ?_
  refine then_n ?_
  refine kS ?_
  refine kS ?_
  refine rp 6 ?_
  refine b1 11 (rfl : false = false) (.C 0 9 <| .E 1 10 (.bool false) <| .C 2 11 <| .C 3 12 <| .E 4 13 (.bool false) <| .E 5 14 (.bool false) <| .nil) [(14, .bool false), (5, .int .i64 0), (4, .int .i64 0), (0, .int .i64 1), (1, .string s)] h2 (Kw.nil hB) fun q3 h4 => ?_
  clear h2
  refine wpO_end ?_
  refine then_n ?_
  refine kC 14 false h4 (fun e5 => Bool.noConfusion (e5.symm.trans (rfl))) (fun _ => ?_)
  refine c_skip (by kernel_rfl) ?_
  refine then_n ?_
  refine kS ?_
  refine rp 7 ?_
  refine b0 (.C 0 16 <| .nil) [(16, .int .i64 1), (5, .int .i64 0), (4, .int .i64 0), (0, .int .i64 1), (1, .string s)] h4 (Kw.nil hB) fun q6 h7 => ?_
  clear h4
  refine sC 1 17 h7 gok_none (c70_1 w) ?_
  rintro _ w10 ⟨rfl, hb11⟩
  have hB12 := hB.call hb11
  refine ⟨_, rfl, trivial, fun q8 h9 => ?_⟩
  clear h7 hB hb11
  refine b0 (.C 2 15 <| .E 3 18 (.int .i64 4) <| .E 4 19 (.int .i64 8) <| .C 5 6 <| .C 6 7 <| .nil) [(7, .int .i64 8), (6, .int .i64 4), (5, .int .i64 0), (4, .int .i64 0), (0, .int .i64 1), (1, .string s)] h9 (Kw.nil hB12) fun q13 h14 => ?_
  clear h9
  refine wpO_end ?_
  refine then_n ?_
  refine kS ?_
  refine kS ?_
  refine rp 1 ?_
  refine b0 (.C 0 8 <| .nil) [(8, .int .i64 0), (7, .int .i64 8), (6, .int .i64 4), (5, .int .i64 0), (4, .int .i64 0), (0, .int .i64 1), (1, .string s)] h14 (Kw.nil hB12) fun q15 h16 => ?_
  clear h14
  refine wpO_end ?_
  refine then_n ?_
  refine c_block 0 (by kernel_rfl) ?_
  refine c_loop (by kernel_rfl) (fun qa qw => ∃ k : Nat, (k ≤ s.size) ∧ Fr 75 [(0, .int .i64 1), (1, .string s), (4, .int .i64 0), (5, .int .i64 0), (6, .int .i64 4), (7, .int .i64 8), (8, .int .i64 ((k : Nat) : Int))] qa ∧ Bx w [] qw ∧ (∀ (j : Nat) (g : Nat) (c : UInt8), j < k → (clsOf sp1)[j]? = some g → s.data.toList[j]? = some c → clsB g (c.toNat : Int) = true)) (fun qa _ => (((s.size : Int)) - intAt qa 8).toNat) ⟨0, Nat.zero_le _, h16.keep _ ⟨rfl, rfl, rfl, rfl, rfl, rfl, rfl, trivial⟩, hB12, fun j _ _ hj => absurd hj (Nat.not_lt_zero _)⟩ ?_
  rintro q17 w18 ⟨k, hk21, h19, hB20, hx23⟩
  have hm22 := h19.int (k := 8) (kd := .i64) (z := ((k : Nat) : Int)) rfl
  clear h16 hB12
  refine kS ?_
  refine kS ?_
  refine rp 9 ?_
  refine b0 (.C 0 20 <| .C 1 21 <| .E 2 22 (.int .i64 ((s.size : Nat) : Int)) <| .E 3 23 (.bool (decide (((k : Nat) : Int) < ((s.size : Nat) : Int)))) <| .C 4 24 <| .J 8 28 24 27 true (decide (((k : Nat) : Int) < ((s.size : Nat) : Int))) (decide (((k : Nat) : Int) < (8 : Int))) (.C 5 25 <| .C 6 26 <| .E 7 27 (.bool (decide (((k : Nat) : Int) < (8 : Int)))) <| .nil) <| .nil) [(28, .bool ((decide (((k : Nat) : Int) < ((s.size : Nat) : Int))) && (decide (((k : Nat) : Int) < (8 : Int))))), (0, .int .i64 1), (1, .string s), (4, .int .i64 0), (5, .int .i64 0), (6, .int .i64 4), (7, .int .i64 8), (8, .int .i64 ((k : Nat) : Int))] h19 (Kw.nil hB20) fun q24 h25 => ?_
  clear h19
  refine wpO_end ?_
  refine then_n ?_
  refine kC 28 ((decide (((k : Nat) : Int) < ((s.size : Nat) : Int))) && (decide (((k : Nat) : Int) < (8 : Int)))) h25 (fun hc26 => ?_) (fun hc26 => ?_)
  ·
    have hlt : k < s.size ∧ k < 8 := by have := hc26; simp at this; omega
    obtain ⟨x, hx⟩ : ∃ x, (clsOf sp1)[k]? = some x := ⟨(clsOf sp1)[k]'hlt.2, List.getElem?_eq_getElem (show k < (clsOf sp1).length from hlt.2)⟩
    refine c_skip (by kernel_rfl) ?_
    refine then_n ?_
    refine kS ?_
    refine c_block 1 (by kernel_rfl) ?_
    refine kS ?_
    refine rp 7 ?_
    refine b0 (.C 0 31 <| .C 1 32 <| .C 2 33 <| .C 3 34 <| .nil) [(34, .int .i64 ((k : Nat) : Int)), (33, .string s), (32, .int .i64 ((k : Nat) : Int)), (31, .int .i64 1), (28, .bool ((decide (((k : Nat) : Int) < ((s.size : Nat) : Int))) && (decide (((k : Nat) : Int) < (8 : Int))))), (0, .int .i64 1), (1, .string s), (4, .int .i64 0), (5, .int .i64 0), (6, .int .i64 4), (7, .int .i64 8), (8, .int .i64 ((k : Nat) : Int))] h25 (Kw.nil hB20) fun q27 h28 => ?_
    clear h25
    refine eE 4 35 (.index 9 (.tmp 33) (.tmp 34)) 5 (.int .u8 (((chAt s k).toNat : Nat) : Int)) h28 (hr := r_indexS (kd := .i64) (i := k) (b := (chAt s k)) (by kernel_rfl) (by kernel_rfl) (getS (by omega)) (by kernel_rfl)) fun q29 h30 => ?_
    clear h28
    refine sC 5 36 h30 gok_none (c71_1 ((k : Nat) : Int) (((chAt s k).toNat : Nat) : Int) w18) ?_
    rintro _ w33 ⟨rfl, hb34⟩
    have hB35 := hB20.call hb34
    refine ⟨_, rfl, trivial, fun q31 h32 => ?_⟩
    clear h30 hB20 hb34
    refine b0 (.E 6 37 (.bool (!(mayB 1 ((k : Nat) : Int) (((chAt s k).toNat : Nat) : Int)))) <| .nil) [(37, .bool (!(mayB 1 ((k : Nat) : Int) (((chAt s k).toNat : Nat) : Int)))), (28, .bool ((decide (((k : Nat) : Int) < ((s.size : Nat) : Int))) && (decide (((k : Nat) : Int) < (8 : Int))))), (0, .int .i64 1), (1, .string s), (4, .int .i64 0), (5, .int .i64 0), (6, .int .i64 4), (7, .int .i64 8), (8, .int .i64 ((k : Nat) : Int))] h32 (Kw.nil hB35) fun q36 h37 => ?_
    clear h32
    refine wpO_end ?_
    refine then_n ?_
    refine kC 37 (!(mayB 1 ((k : Nat) : Int) (((chAt s k).toNat : Nat) : Int))) h37 (fun hc38 => ?_) (fun hc38 => ?_)
    ·
      rw [may_cls 1 (by decide) k x _ hx] at hc38
      refine kS ?_
      refine rp 3 ?_
      refine b0 (.C 0 38 <| .C 1 4 <| .C 2 5 <| .nil) [(5, .int .i64 3), (4, .int .i64 ((k : Nat) : Int)), (37, .bool (!(mayB 1 ((k : Nat) : Int) (((chAt s k).toNat : Nat) : Int)))), (28, .bool ((decide (((k : Nat) : Int) < ((s.size : Nat) : Int))) && (decide (((k : Nat) : Int) < (8 : Int))))), (0, .int .i64 1), (1, .string s), (6, .int .i64 4), (7, .int .i64 8), (8, .int .i64 ((k : Nat) : Int))] h37 (Kw.nil hB35) fun q39 h40 => ?_
      clear h37
      refine wpO_end ?_
      refine then_n ?_
      refine c_ret (by kernel_rfl) ?_
      refine inB_r (then_r (then_r (inB_r (then_r ?_))))
      refine ret2 (t := 4) (u := 5) (v := .int .i64 ((k : Nat) : Int)) (v' := .int .i64 3) h40 (by kernel_rfl) (by kernel_rfl) (by kernel_rfl) ?_
      exact ⟨_, _, rfl, refb_bad1 s (pfx_bad (sh := 4) hx (by rw [decide_eq_true (by omega), Bool.true_and]; exact hc38)), hB35.bel⟩
    rw [may_cls 1 (by decide) k x _ hx] at hc38
    refine c_skip (by kernel_rfl) ?_
    refine inB_n ?_
    refine then_n ?_
    refine rp 3 ?_
    refine b0 (.C 0 29 <| .E 1 30 (.int .i64 (IntKind.i64.wrap (((k : Nat) : Int) + 1))) <| .C 2 8 <| .nil) [(8, .int .i64 (IntKind.i64.wrap (((k : Nat) : Int) + 1))), (37, .bool (!(mayB 1 ((k : Nat) : Int) (((chAt s k).toNat : Nat) : Int)))), (28, .bool ((decide (((k : Nat) : Int) < ((s.size : Nat) : Int))) && (decide (((k : Nat) : Int) < (8 : Int))))), (0, .int .i64 1), (1, .string s), (4, .int .i64 0), (5, .int .i64 0), (6, .int .i64 4), (7, .int .i64 8)] h37 (Kw.nil hB35) fun q41 h42 => ?_
    clear h37
    refine wpO_end ?_
    have h43 := h42.keep [(0, .int .i64 1), (1, .string s), (4, .int .i64 0), (5, .int .i64 0), (6, .int .i64 4), (7, .int .i64 8), (8, .int .i64 (((k + 1) : Nat) : Int))] ⟨rfl, rfl, rfl, rfl, rfl, rfl, look_int rfl (wrap_succ (by have := hlt.2; omega)), trivial⟩
    have hm44 := h43.int (k := 8) (kd := .i64) (z := (((k + 1) : Nat) : Int)) rfl
    refine then_n ⟨⟨k + 1, by omega, h43, hB35, pfx_step hx23 hx (by rw [decide_eq_true (by omega), Bool.true_and]; exact hc38)⟩, ?_⟩
    show (((s.size : Int)) - intAt _ 8).toNat < (((s.size : Int)) - intAt _ 8).toNat
    rw [hm22, hm44]; omega
  have hend : s.size ≤ k ∨ 8 ≤ k := by have := hc26; simp at this; omega
  have hpf := pfx_ok2 (cl := (clsOf sp1)) (sh := 4) hx23 hend
  refine c_exit 0 (by kernel_rfl) ?_
  refine then_e (then_e (inB_hit ?_))
  refine then_n ?_
  refine kS ?_
  refine kS ?_
  refine rp 4 ?_
  refine b0 (.C 0 39 <| .E 1 40 (.int .i64 ((s.size : Nat) : Int)) <| .C 2 41 <| .E 3 42 (.bool (decide (((s.size : Nat) : Int) < (4 : Int)))) <| .nil) [(42, .bool (decide (((s.size : Nat) : Int) < (4 : Int)))), (0, .int .i64 1), (1, .string s), (4, .int .i64 0), (5, .int .i64 0), (7, .int .i64 8)] h25 (Kw.nil hB20) fun q45 h46 => ?_
  clear h25
  refine wpO_end ?_
  refine then_n ?_
  refine kC 42 (decide (((s.size : Nat) : Int) < (4 : Int))) h46 (fun hc47 => ?_) (fun hc47 => ?_)
  ·
    have hp48 : (((s.size : Nat) : Int) < (4 : Int)) := of_decide_eq_true hc47
    refine kS ?_
    refine rp 4 ?_
    refine b0 (.C 0 43 <| .E 1 44 (.int .i64 ((s.size : Nat) : Int)) <| .C 2 4 <| .C 3 5 <| .nil) [(5, .int .i64 4), (4, .int .i64 ((s.size : Nat) : Int)), (0, .int .i64 1), (1, .string s), (7, .int .i64 8)] h46 (Kw.nil hB20) fun q49 h50 => ?_
    clear h46
    refine wpO_end ?_
    refine then_n ?_
    refine c_ret (by kernel_rfl) ?_
    refine then_r ?_
    refine ret2 (t := 4) (u := 5) (v := .int .i64 ((s.size : Nat) : Int)) (v' := .int .i64 4) h50 (by kernel_rfl) (by kernel_rfl) (by kernel_rfl) ?_
    exact ⟨_, _, rfl, refb_bad1 s (show pfxE (clsOf sp1) 4 s = 4 from hpf.trans (cT hc47)), hB20.bel⟩
  have hp51 : ¬ (((s.size : Nat) : Int) < (4 : Int)) := of_decide_eq_false hc47
  refine c_skip (by kernel_rfl) ?_
  refine then_n ?_
  refine kS ?_
  refine kS ?_
  refine rp 4 ?_
  refine b0 (.C 0 45 <| .E 1 46 (.int .i64 ((s.size : Nat) : Int)) <| .C 2 47 <| .E 3 48 (.bool (decide ((8 : Int) < ((s.size : Nat) : Int)))) <| .nil) [(48, .bool (decide ((8 : Int) < ((s.size : Nat) : Int)))), (0, .int .i64 1), (1, .string s), (4, .int .i64 0), (5, .int .i64 0), (7, .int .i64 8)] h46 (Kw.nil hB20) fun q52 h53 => ?_
  clear h46
  refine wpO_end ?_
  refine then_n ?_
  refine kC 48 (decide ((8 : Int) < ((s.size : Nat) : Int))) h53 (fun hc54 => ?_) (fun hc54 => ?_)
  ·
    have hp55 : ((8 : Int) < ((s.size : Nat) : Int)) := of_decide_eq_true hc54
    refine kS ?_
    refine rp 3 ?_
    refine b0 (.C 0 49 <| .C 1 4 <| .C 2 5 <| .nil) [(5, .int .i64 5), (4, .int .i64 8), (0, .int .i64 1), (1, .string s)] h53 (Kw.nil hB20) fun q56 h57 => ?_
    clear h53
    refine wpO_end ?_
    refine then_n ?_
    refine c_ret (by kernel_rfl) ?_
    refine then_r ?_
    refine ret2 (t := 4) (u := 5) (v := .int .i64 8) (v' := .int .i64 5) h57 (by kernel_rfl) (by kernel_rfl) (by kernel_rfl) ?_
    exact ⟨_, _, rfl, refb_bad1 s (show pfxE (clsOf sp1) 4 s = 5 from hpf.trans ((cF hc47).trans (cT hc54))), hB20.bel⟩
  have hp58 : ¬ ((8 : Int) < ((s.size : Nat) : Int)) := of_decide_eq_false hc54
  refine c_skip (by kernel_rfl) ?_
  refine then_n ?_
  refine kS ?_
  refine kS ?_
  have hD59 := hB20.drew
  refine rd (Bx w []) 12 [⟨0, true, 0, 1, 1125899906842624⟩, ⟨1, true, 1, 1125899906842624, 2251799813685248⟩, ⟨2, true, 2, 2251799813685248, 4503599627370496⟩, ⟨3, true, 4, 4503599627370498, 9007199254740992⟩, ⟨4, true, 12, 13510798882111488, 18014398509481984⟩, ⟨5, true, 20, 22517998136852480, 36028797018963968⟩, ⟨6, true, 36, 40532396646334464, 72057594037927936⟩, ⟨7, true, 4, 4503599627370498, 144115188075855872⟩, ⟨8, true, 132, 148618787703226368, 288230376151711744⟩, ⟨9, false, 260, 292733975779082240, 576460752303423488⟩, ⟨10, true, 580, 653021945968721920, 1152921504606846976⟩, ⟨11, true, 1028, 1157425104234217472, 2305843009213693952⟩] hD59 ?_
  generalize World.drew w18 = w60 at hD59 ⊢
  refine d1 52 (rfl : false = false) (.C 0 50 <| .E 1 51 (.bool false) <| .C 2 52 <| .K 3 53 <| .K 4 54 <| .K 5 55 <| .K 6 56 <| .K 7 57 <| .K 8 58 <| .nil) [(58, undef), (56, undef), (52, .bool false), (0, .int .i64 1), (1, .string s), (4, .int .i64 0), (5, .int .i64 0)] h53 (fun _ hS => Kw.nil hS) fun q61 h62 => ?_
  clear h53
  refine kE 9 59 (2, true) (g3 52 (rfl : false = false)) h62 hD59 fun q63 h64 => ?_
  clear h62
  refine d1 52 (rfl : false = false) (.K 10 60 <| .E 11 61 (.bool false) <| .nil) [(61, .bool false), (0, .int .i64 1), (1, .string s), (4, .int .i64 0), (5, .int .i64 0)] h64 (fun _ hS => Kw.nil hS) fun q65 h66 => ?_
  clear h64
  refine wpO_end ?_
  refine then_n ?_
  refine kC 61 false h66 (fun e67 => Bool.noConfusion (e67.symm.trans (rfl))) (fun _ => ?_)
  refine c_skip (by kernel_rfl) ?_
  refine then_n ?_
  refine kS ?_
  refine kS ?_
  have hD68 := hD59.drew
  refine rd (Bx w []) 13 [⟨0, true, 0, 1, 4611686018427387904⟩, ⟨1, true, 1, 4611686018427387904, 9223372036854775808⟩, ⟨2, true, 2, 9223372036854775808, 18446744073709551616⟩, ⟨3, true, 4, 18446744073709551618, 36893488147419103232⟩, ⟨4, true, 12, 55340232221128654848, 73786976294838206464⟩, ⟨5, true, 4, 18446744073709551618, 147573952589676412928⟩, ⟨6, true, 36, 166020696663385964544, 295147905179352825856⟩, ⟨7, true, 68, 313594649253062377472, 590295810358705651712⟩, ⟨8, false, 132, 608742554432415203328, 1180591620717411303424⟩, ⟨9, true, 260, 1199038364791120855040, 2361183241434822606848⟩, ⟨10, false, 772, 2379629985508532158464, 4722366482869645213696⟩, ⟨11, true, 1044, 4814600203238192971776, 9444732965739290427392⟩, ⟨12, true, 2052, 9463179709812999979008, 18889465931478580854784⟩] hD68 ?_
  generalize World.drew w60 = w69 at hD68 ⊢
  refine d1 64 (rfl : false = false) (.C 0 62 <| .E 1 63 (.bool false) <| .C 2 64 <| .K 3 65 <| .K 4 66 <| .K 5 67 <| .K 6 68 <| .K 7 69 <| .nil) [(69, undef), (66, undef), (64, .bool false), (4, .int .i64 0), (5, .int .i64 0)] h66 (fun _ hS => Kw.nil hS) fun q70 h71 => ?_
  clear h66
  refine kE 8 70 (2, true) (g3 64 (rfl : false = false)) h71 hD68 fun q72 h73 => ?_
  clear h71
  refine d1 64 (rfl : false = false) (.K 9 71 <| .nil) [(71, undef), (66, undef), (64, .bool false), (4, .int .i64 0), (5, .int .i64 0)] h73 (fun _ hS => Kw.nil hS) fun q74 h75 => ?_
  clear h73
  refine kE 10 72 (2, true) (g3 64 (rfl : false = false)) h75 hD68 fun q76 h77 => ?_
  clear h75
  refine d1 64 (rfl : false = false) (.K 11 73 <| .E 12 74 (.bool false) <| .nil) [(74, .bool false), (4, .int .i64 0), (5, .int .i64 0)] h77 (fun _ hS => Kw.nil hS) fun q78 h79 => ?_
  clear h77
  refine wpO_end ?_
  refine then_n ?_
  refine kC 74 false h79 (fun e80 => Bool.noConfusion (e80.symm.trans (rfl))) (fun _ => ?_)
  refine c_skip (by kernel_rfl) ?_
  refine then_n ?_
  refine kS ?_
  refine rp 2 ?_
  refine b0 (.C 0 4 <| .C 1 5 <| .nil) [(5, .int .i64 0), (4, .int .i64 0)] h79 (Kw.nil hD68) fun q81 h82 => ?_
  clear h79
  refine wpO_end ?_
  refine then_n ?_
  refine c_ret (by kernel_rfl) ?_
  refine ret2 (t := 4) (u := 5) (v := .int .i64 0) (v' := .int .i64 0) h82 (by kernel_rfl) (by kernel_rfl) (by kernel_rfl) ?_
  exact ⟨_, _, rfl, refb_ok1 s (hpf.trans ((cF hc47).trans (cF hc54))), hD68.bel⟩

set_option maxHeartbeats 4000000 in
set_option maxRecDepth 20000 in
theorem c63_2 (s : ByteArray) (w : World) : Calls Tryz.prog 102 #[.int .i64 2, .string s] w (fun e w' => ∃ at' E : Int, e = .returned (.tuple #[.int .i64 at', .int .i64 E]) ∧ (E == 0) = rfB s ∧ Below w.heap.size w w') := by
  refine enter Tryz.func102 (by kernel_rfl) ?_ (by kernel_rfl)
  intro q0 h0
  replace h0 := h0.conv (l' := [(0, .int .i64 2), (1, .string s)]) rfl
  have hB := Bx.refl w
  refine kS ?_
  refine rp 2 ?_
  refine b0 (.C 0 4 <| .C 1 5 <| .nil) [(5, .int .i64 0), (4, .int .i64 0), (0, .int .i64 2), (1, .string s)] h0 (Kw.nil hB) fun q1 h2 => ?_
  clear h0
  refine wpO_end ?_
  refine then_n ?_
  refine kS ?_
  refine kS ?_
  refine rp 6 ?_
  refine b1 11 (rfl : false = false) (.C 0 9 <| .E 1 10 (.bool false) <| .C 2 11 <| .C 3 12 <| .E 4 13 (.bool false) <| .E 5 14 (.bool false) <| .nil) [(14, .bool false), (5, .int .i64 0), (4, .int .i64 0), (0, .int .i64 2), (1, .string s)] h2 (Kw.nil hB) fun q3 h4 => ?_
  clear h2
  refine wpO_end ?_
  refine then_n ?_
  refine kC 14 false h4 (fun e5 => Bool.noConfusion (e5.symm.trans (rfl))) (fun _ => ?_)
  refine c_skip (by kernel_rfl) ?_
  refine then_n ?_
  refine kS ?_
  refine rp 7 ?_
  refine b0 (.C 0 16 <| .nil) [(16, .int .i64 2), (5, .int .i64 0), (4, .int .i64 0), (0, .int .i64 2), (1, .string s)] h4 (Kw.nil hB) fun q6 h7 => ?_
  clear h4
  refine sC 1 17 h7 gok_none (c70_2 w) ?_
  rintro _ w10 ⟨rfl, hb11⟩
  have hB12 := hB.call hb11
  refine ⟨_, rfl, trivial, fun q8 h9 => ?_⟩
  clear h7 hB hb11
  refine b0 (.C 2 15 <| .E 3 18 (.int .i64 1) <| .E 4 19 (.int .i64 16) <| .C 5 6 <| .C 6 7 <| .nil) [(7, .int .i64 16), (6, .int .i64 1), (5, .int .i64 0), (4, .int .i64 0), (0, .int .i64 2), (1, .string s)] h9 (Kw.nil hB12) fun q13 h14 => ?_
  clear h9
  refine wpO_end ?_
  refine then_n ?_
  refine kS ?_
  refine kS ?_
  refine rp 1 ?_
  refine b0 (.C 0 8 <| .nil) [(8, .int .i64 0), (7, .int .i64 16), (6, .int .i64 1), (5, .int .i64 0), (4, .int .i64 0), (0, .int .i64 2), (1, .string s)] h14 (Kw.nil hB12) fun q15 h16 => ?_
  clear h14
  refine wpO_end ?_
  refine then_n ?_
  refine c_block 0 (by kernel_rfl) ?_
  refine c_loop (by kernel_rfl) (fun qa qw => ∃ k : Nat, (k ≤ s.size) ∧ Fr 75 [(0, .int .i64 2), (1, .string s), (4, .int .i64 0), (5, .int .i64 0), (6, .int .i64 1), (7, .int .i64 16), (8, .int .i64 ((k : Nat) : Int))] qa ∧ Bx w [] qw ∧ (∀ (j : Nat) (g : Nat) (c : UInt8), j < k → (clsOf sp2)[j]? = some g → s.data.toList[j]? = some c → clsB g (c.toNat : Int) = true)) (fun qa _ => (((s.size : Int)) - intAt qa 8).toNat) ⟨0, Nat.zero_le _, h16.keep _ ⟨rfl, rfl, rfl, rfl, rfl, rfl, rfl, trivial⟩, hB12, fun j _ _ hj => absurd hj (Nat.not_lt_zero _)⟩ ?_
  rintro q17 w18 ⟨k, hk21, h19, hB20, hx23⟩
  have hm22 := h19.int (k := 8) (kd := .i64) (z := ((k : Nat) : Int)) rfl
  clear h16 hB12
  refine kS ?_
  refine kS ?_
  refine rp 9 ?_
  refine b0 (.C 0 20 <| .C 1 21 <| .E 2 22 (.int .i64 ((s.size : Nat) : Int)) <| .E 3 23 (.bool (decide (((k : Nat) : Int) < ((s.size : Nat) : Int)))) <| .C 4 24 <| .J 8 28 24 27 true (decide (((k : Nat) : Int) < ((s.size : Nat) : Int))) (decide (((k : Nat) : Int) < (16 : Int))) (.C 5 25 <| .C 6 26 <| .E 7 27 (.bool (decide (((k : Nat) : Int) < (16 : Int)))) <| .nil) <| .nil) [(28, .bool ((decide (((k : Nat) : Int) < ((s.size : Nat) : Int))) && (decide (((k : Nat) : Int) < (16 : Int))))), (0, .int .i64 2), (1, .string s), (4, .int .i64 0), (5, .int .i64 0), (6, .int .i64 1), (7, .int .i64 16), (8, .int .i64 ((k : Nat) : Int))] h19 (Kw.nil hB20) fun q24 h25 => ?_
  clear h19
  refine wpO_end ?_
  refine then_n ?_
  refine kC 28 ((decide (((k : Nat) : Int) < ((s.size : Nat) : Int))) && (decide (((k : Nat) : Int) < (16 : Int)))) h25 (fun hc26 => ?_) (fun hc26 => ?_)
  ·
    have hlt : k < s.size ∧ k < 16 := by have := hc26; simp at this; omega
    obtain ⟨x, hx⟩ : ∃ x, (clsOf sp2)[k]? = some x := ⟨(clsOf sp2)[k]'hlt.2, List.getElem?_eq_getElem (show k < (clsOf sp2).length from hlt.2)⟩
    refine c_skip (by kernel_rfl) ?_
    refine then_n ?_
    refine kS ?_
    refine c_block 1 (by kernel_rfl) ?_
    refine kS ?_
    refine rp 7 ?_
    refine b0 (.C 0 31 <| .C 1 32 <| .C 2 33 <| .C 3 34 <| .nil) [(34, .int .i64 ((k : Nat) : Int)), (33, .string s), (32, .int .i64 ((k : Nat) : Int)), (31, .int .i64 2), (28, .bool ((decide (((k : Nat) : Int) < ((s.size : Nat) : Int))) && (decide (((k : Nat) : Int) < (16 : Int))))), (0, .int .i64 2), (1, .string s), (4, .int .i64 0), (5, .int .i64 0), (6, .int .i64 1), (7, .int .i64 16), (8, .int .i64 ((k : Nat) : Int))] h25 (Kw.nil hB20) fun q27 h28 => ?_
    clear h25
    refine eE 4 35 (.index 9 (.tmp 33) (.tmp 34)) 5 (.int .u8 (((chAt s k).toNat : Nat) : Int)) h28 (hr := r_indexS (kd := .i64) (i := k) (b := (chAt s k)) (by kernel_rfl) (by kernel_rfl) (getS (by omega)) (by kernel_rfl)) fun q29 h30 => ?_
    clear h28
    refine sC 5 36 h30 gok_none (c71_2 ((k : Nat) : Int) (((chAt s k).toNat : Nat) : Int) w18) ?_
    rintro _ w33 ⟨rfl, hb34⟩
    have hB35 := hB20.call hb34
    refine ⟨_, rfl, trivial, fun q31 h32 => ?_⟩
    clear h30 hB20 hb34
    refine b0 (.E 6 37 (.bool (!(mayB 2 ((k : Nat) : Int) (((chAt s k).toNat : Nat) : Int)))) <| .nil) [(37, .bool (!(mayB 2 ((k : Nat) : Int) (((chAt s k).toNat : Nat) : Int)))), (28, .bool ((decide (((k : Nat) : Int) < ((s.size : Nat) : Int))) && (decide (((k : Nat) : Int) < (16 : Int))))), (0, .int .i64 2), (1, .string s), (4, .int .i64 0), (5, .int .i64 0), (6, .int .i64 1), (7, .int .i64 16), (8, .int .i64 ((k : Nat) : Int))] h32 (Kw.nil hB35) fun q36 h37 => ?_
    clear h32
    refine wpO_end ?_
    refine then_n ?_
    refine kC 37 (!(mayB 2 ((k : Nat) : Int) (((chAt s k).toNat : Nat) : Int))) h37 (fun hc38 => ?_) (fun hc38 => ?_)
    ·
      rw [may_cls 2 (by decide) k x _ hx] at hc38
      refine kS ?_
      refine rp 3 ?_
      refine b0 (.C 0 38 <| .C 1 4 <| .C 2 5 <| .nil) [(5, .int .i64 3), (4, .int .i64 ((k : Nat) : Int)), (37, .bool (!(mayB 2 ((k : Nat) : Int) (((chAt s k).toNat : Nat) : Int)))), (28, .bool ((decide (((k : Nat) : Int) < ((s.size : Nat) : Int))) && (decide (((k : Nat) : Int) < (16 : Int))))), (0, .int .i64 2), (1, .string s), (6, .int .i64 1), (7, .int .i64 16), (8, .int .i64 ((k : Nat) : Int))] h37 (Kw.nil hB35) fun q39 h40 => ?_
      clear h37
      refine wpO_end ?_
      refine then_n ?_
      refine c_ret (by kernel_rfl) ?_
      refine inB_r (then_r (then_r (inB_r (then_r ?_))))
      refine ret2 (t := 4) (u := 5) (v := .int .i64 ((k : Nat) : Int)) (v' := .int .i64 3) h40 (by kernel_rfl) (by kernel_rfl) (by kernel_rfl) ?_
      exact ⟨_, _, rfl, refb_bad2 s (pfx_bad (sh := 1) hx (by rw [decide_eq_true (by omega), Bool.true_and]; exact hc38)), hB35.bel⟩
    rw [may_cls 2 (by decide) k x _ hx] at hc38
    refine c_skip (by kernel_rfl) ?_
    refine inB_n ?_
    refine then_n ?_
    refine rp 3 ?_
    refine b0 (.C 0 29 <| .E 1 30 (.int .i64 (IntKind.i64.wrap (((k : Nat) : Int) + 1))) <| .C 2 8 <| .nil) [(8, .int .i64 (IntKind.i64.wrap (((k : Nat) : Int) + 1))), (37, .bool (!(mayB 2 ((k : Nat) : Int) (((chAt s k).toNat : Nat) : Int)))), (28, .bool ((decide (((k : Nat) : Int) < ((s.size : Nat) : Int))) && (decide (((k : Nat) : Int) < (16 : Int))))), (0, .int .i64 2), (1, .string s), (4, .int .i64 0), (5, .int .i64 0), (6, .int .i64 1), (7, .int .i64 16)] h37 (Kw.nil hB35) fun q41 h42 => ?_
    clear h37
    refine wpO_end ?_
    have h43 := h42.keep [(0, .int .i64 2), (1, .string s), (4, .int .i64 0), (5, .int .i64 0), (6, .int .i64 1), (7, .int .i64 16), (8, .int .i64 (((k + 1) : Nat) : Int))] ⟨rfl, rfl, rfl, rfl, rfl, rfl, look_int rfl (wrap_succ (by have := hlt.2; omega)), trivial⟩
    have hm44 := h43.int (k := 8) (kd := .i64) (z := (((k + 1) : Nat) : Int)) rfl
    refine then_n ⟨⟨k + 1, by omega, h43, hB35, pfx_step hx23 hx (by rw [decide_eq_true (by omega), Bool.true_and]; exact hc38)⟩, ?_⟩
    show (((s.size : Int)) - intAt _ 8).toNat < (((s.size : Int)) - intAt _ 8).toNat
    rw [hm22, hm44]; omega
  have hend : s.size ≤ k ∨ 16 ≤ k := by have := hc26; simp at this; omega
  have hpf := pfx_ok2 (cl := (clsOf sp2)) (sh := 1) hx23 hend
  refine c_exit 0 (by kernel_rfl) ?_
  refine then_e (then_e (inB_hit ?_))
  refine then_n ?_
  refine kS ?_
  refine kS ?_
  refine rp 4 ?_
  refine b0 (.C 0 39 <| .E 1 40 (.int .i64 ((s.size : Nat) : Int)) <| .C 2 41 <| .E 3 42 (.bool (decide (((s.size : Nat) : Int) < (1 : Int)))) <| .nil) [(42, .bool (decide (((s.size : Nat) : Int) < (1 : Int)))), (0, .int .i64 2), (1, .string s), (4, .int .i64 0), (5, .int .i64 0), (7, .int .i64 16)] h25 (Kw.nil hB20) fun q45 h46 => ?_
  clear h25
  refine wpO_end ?_
  refine then_n ?_
  refine kC 42 (decide (((s.size : Nat) : Int) < (1 : Int))) h46 (fun hc47 => ?_) (fun hc47 => ?_)
  ·
    have hp48 : (((s.size : Nat) : Int) < (1 : Int)) := of_decide_eq_true hc47
    refine kS ?_
    refine rp 4 ?_
    refine b0 (.C 0 43 <| .E 1 44 (.int .i64 ((s.size : Nat) : Int)) <| .C 2 4 <| .C 3 5 <| .nil) [(5, .int .i64 4), (4, .int .i64 ((s.size : Nat) : Int)), (0, .int .i64 2), (1, .string s), (7, .int .i64 16)] h46 (Kw.nil hB20) fun q49 h50 => ?_
    clear h46
    refine wpO_end ?_
    refine then_n ?_
    refine c_ret (by kernel_rfl) ?_
    refine then_r ?_
    refine ret2 (t := 4) (u := 5) (v := .int .i64 ((s.size : Nat) : Int)) (v' := .int .i64 4) h50 (by kernel_rfl) (by kernel_rfl) (by kernel_rfl) ?_
    exact ⟨_, _, rfl, refb_bad2 s (show pfxE (clsOf sp2) 1 s = 4 from hpf.trans (cT hc47)), hB20.bel⟩
  have hp51 : ¬ (((s.size : Nat) : Int) < (1 : Int)) := of_decide_eq_false hc47
  refine c_skip (by kernel_rfl) ?_
  refine then_n ?_
  refine kS ?_
  refine kS ?_
  refine rp 4 ?_
  refine b0 (.C 0 45 <| .E 1 46 (.int .i64 ((s.size : Nat) : Int)) <| .C 2 47 <| .E 3 48 (.bool (decide ((16 : Int) < ((s.size : Nat) : Int)))) <| .nil) [(48, .bool (decide ((16 : Int) < ((s.size : Nat) : Int)))), (0, .int .i64 2), (1, .string s), (4, .int .i64 0), (5, .int .i64 0), (7, .int .i64 16)] h46 (Kw.nil hB20) fun q52 h53 => ?_
  clear h46
  refine wpO_end ?_
  refine then_n ?_
  refine kC 48 (decide ((16 : Int) < ((s.size : Nat) : Int))) h53 (fun hc54 => ?_) (fun hc54 => ?_)
  ·
    have hp55 : ((16 : Int) < ((s.size : Nat) : Int)) := of_decide_eq_true hc54
    refine kS ?_
    refine rp 3 ?_
    refine b0 (.C 0 49 <| .C 1 4 <| .C 2 5 <| .nil) [(5, .int .i64 5), (4, .int .i64 16), (0, .int .i64 2), (1, .string s)] h53 (Kw.nil hB20) fun q56 h57 => ?_
    clear h53
    refine wpO_end ?_
    refine then_n ?_
    refine c_ret (by kernel_rfl) ?_
    refine then_r ?_
    refine ret2 (t := 4) (u := 5) (v := .int .i64 16) (v' := .int .i64 5) h57 (by kernel_rfl) (by kernel_rfl) (by kernel_rfl) ?_
    exact ⟨_, _, rfl, refb_bad2 s (show pfxE (clsOf sp2) 1 s = 5 from hpf.trans ((cF hc47).trans (cT hc54))), hB20.bel⟩
  have hp58 : ¬ ((16 : Int) < ((s.size : Nat) : Int)) := of_decide_eq_false hc54
  refine c_skip (by kernel_rfl) ?_
  refine then_n ?_
  refine kS ?_
  refine kS ?_
  have hD59 := hB20.drew
  refine rd (Bx w []) 12 [⟨0, true, 0, 1, 1125899906842624⟩, ⟨1, true, 1, 1125899906842624, 2251799813685248⟩, ⟨2, true, 2, 2251799813685248, 4503599627370496⟩, ⟨3, true, 4, 4503599627370498, 9007199254740992⟩, ⟨4, true, 12, 13510798882111488, 18014398509481984⟩, ⟨5, true, 20, 22517998136852480, 36028797018963968⟩, ⟨6, true, 36, 40532396646334464, 72057594037927936⟩, ⟨7, true, 4, 4503599627370498, 144115188075855872⟩, ⟨8, true, 132, 148618787703226368, 288230376151711744⟩, ⟨9, false, 260, 292733975779082240, 576460752303423488⟩, ⟨10, true, 580, 653021945968721920, 1152921504606846976⟩, ⟨11, true, 1028, 1157425104234217472, 2305843009213693952⟩] hD59 ?_
  generalize World.drew w18 = w60 at hD59 ⊢
  refine d1 52 (rfl : false = false) (.C 0 50 <| .E 1 51 (.bool false) <| .C 2 52 <| .K 3 53 <| .K 4 54 <| .K 5 55 <| .K 6 56 <| .K 7 57 <| .K 8 58 <| .nil) [(58, undef), (56, undef), (52, .bool false), (0, .int .i64 2), (1, .string s), (4, .int .i64 0), (5, .int .i64 0)] h53 (fun _ hS => Kw.nil hS) fun q61 h62 => ?_
  clear h53
  refine kE 9 59 (2, true) (g3 52 (rfl : false = false)) h62 hD59 fun q63 h64 => ?_
  clear h62
  refine d1 52 (rfl : false = false) (.K 10 60 <| .E 11 61 (.bool false) <| .nil) [(61, .bool false), (0, .int .i64 2), (1, .string s), (4, .int .i64 0), (5, .int .i64 0)] h64 (fun _ hS => Kw.nil hS) fun q65 h66 => ?_
  clear h64
  refine wpO_end ?_
  refine then_n ?_
  refine kC 61 false h66 (fun e67 => Bool.noConfusion (e67.symm.trans (rfl))) (fun _ => ?_)
  refine c_skip (by kernel_rfl) ?_
  refine then_n ?_
  refine kS ?_
  refine kS ?_
  have hD68 := hD59.drew
  refine rd (Bx w []) 13 [⟨0, true, 0, 1, 4611686018427387904⟩, ⟨1, true, 1, 4611686018427387904, 9223372036854775808⟩, ⟨2, true, 2, 9223372036854775808, 18446744073709551616⟩, ⟨3, true, 4, 18446744073709551618, 36893488147419103232⟩, ⟨4, true, 12, 55340232221128654848, 73786976294838206464⟩, ⟨5, true, 4, 18446744073709551618, 147573952589676412928⟩, ⟨6, true, 36, 166020696663385964544, 295147905179352825856⟩, ⟨7, true, 68, 313594649253062377472, 590295810358705651712⟩, ⟨8, false, 132, 608742554432415203328, 1180591620717411303424⟩, ⟨9, true, 260, 1199038364791120855040, 2361183241434822606848⟩, ⟨10, false, 772, 2379629985508532158464, 4722366482869645213696⟩, ⟨11, true, 1044, 4814600203238192971776, 9444732965739290427392⟩, ⟨12, true, 2052, 9463179709812999979008, 18889465931478580854784⟩] hD68 ?_
  generalize World.drew w60 = w69 at hD68 ⊢
  refine d1 64 (rfl : false = false) (.C 0 62 <| .E 1 63 (.bool false) <| .C 2 64 <| .K 3 65 <| .K 4 66 <| .K 5 67 <| .K 6 68 <| .K 7 69 <| .nil) [(69, undef), (66, undef), (64, .bool false), (4, .int .i64 0), (5, .int .i64 0)] h66 (fun _ hS => Kw.nil hS) fun q70 h71 => ?_
  clear h66
  refine kE 8 70 (2, true) (g3 64 (rfl : false = false)) h71 hD68 fun q72 h73 => ?_
  clear h71
  refine d1 64 (rfl : false = false) (.K 9 71 <| .nil) [(71, undef), (66, undef), (64, .bool false), (4, .int .i64 0), (5, .int .i64 0)] h73 (fun _ hS => Kw.nil hS) fun q74 h75 => ?_
  clear h73
  refine kE 10 72 (2, true) (g3 64 (rfl : false = false)) h75 hD68 fun q76 h77 => ?_
  clear h75
  refine d1 64 (rfl : false = false) (.K 11 73 <| .E 12 74 (.bool false) <| .nil) [(74, .bool false), (4, .int .i64 0), (5, .int .i64 0)] h77 (fun _ hS => Kw.nil hS) fun q78 h79 => ?_
  clear h77
  refine wpO_end ?_
  refine then_n ?_
  refine kC 74 false h79 (fun e80 => Bool.noConfusion (e80.symm.trans (rfl))) (fun _ => ?_)
  refine c_skip (by kernel_rfl) ?_
  refine then_n ?_
  refine kS ?_
  refine rp 2 ?_
  refine b0 (.C 0 4 <| .C 1 5 <| .nil) [(5, .int .i64 0), (4, .int .i64 0)] h79 (Kw.nil hD68) fun q81 h82 => ?_
  clear h79
  refine wpO_end ?_
  refine then_n ?_
  refine c_ret (by kernel_rfl) ?_
  refine ret2 (t := 4) (u := 5) (v := .int .i64 0) (v' := .int .i64 0) h82 (by kernel_rfl) (by kernel_rfl) (by kernel_rfl) ?_
  exact ⟨_, _, rfl, refb_ok2 s (hpf.trans ((cF hc47).trans (cF hc54))), hD68.bel⟩

set_option maxHeartbeats 4000000 in
set_option maxRecDepth 20000 in
theorem c50_0 (s : ByteArray) (w : World) : Calls Tryz.prog 83 #[.int .i64 0, .string s] w fun e w' => e = .returned (.bool (isinB s)) ∧ Below w.heap.size w w' := by
  refine enter Tryz.func83 (by kernel_rfl) ?_ (by kernel_rfl)
  intro q0 h0
  replace h0 := h0.conv (l' := [(0, .int .i64 0), (1, .string s)]) rfl
  have hB := Bx.refl w
  refine kS ?_
  refine rp 1 ?_
  refine b0 (.C 0 4 <| .nil) [(4, .bool false), (0, .int .i64 0), (1, .string s)] h0 (Kw.nil hB) fun q1 h2 => ?_
  clear h0
  refine wpO_end ?_
  refine then_n ?_
  refine kS ?_
  refine rp 8 ?_
  refine b0 (.C 0 8 <| .C 1 9 <| .nil) [(9, .string s), (8, .int .i64 0), (4, .bool false)] h2 (Kw.nil hB) fun q3 h4 => ?_
  clear h2
  refine sC 2 10 h4 gok_none (c63_0 s w) ?_
  rintro _ w9 ⟨at'7, E8, rfl, hE12, hb10⟩
  have hB11 := hB.call hb10
  refine ⟨_, rfl, trivial, fun q5 h6 => ?_⟩
  clear h4 hB hb10
  refine b0 (.C 3 7 <| .E 4 11 (.int .i64 at'7) <| .E 5 12 (.int .i64 E8) <| .C 6 5 <| .C 7 6 <| .nil) [(6, .int .i64 E8), (4, .bool false)] h6 (Kw.nil hB11) fun q13 h14 => ?_
  clear h6
  refine wpO_end ?_
  refine then_n ?_
  refine kS ?_
  refine rp 3 ?_
  refine b0 (.C 0 13 <| .E 1 14 (.bool (E8 == (0 : Int))) <| .C 2 4 <| .nil) [(4, .bool (E8 == (0 : Int)))] h14 (Kw.nil hB11) fun q15 h16 => ?_
  clear h14
  refine wpO_end ?_
  refine then_n ?_
  refine c_ret (by kernel_rfl) ?_
  refine ret1 (t := 4) (v := .bool (E8 == (0 : Int))) h16 (by kernel_rfl) (by kernel_rfl) ?_
  exact ⟨ret_eq (congrArg Value.bool hE12), hB11.bel⟩

set_option maxHeartbeats 4000000 in
set_option maxRecDepth 20000 in
theorem c50_1 (s : ByteArray) (w : World) : Calls Tryz.prog 83 #[.int .i64 1, .string s] w fun e w' => e = .returned (.bool (memB s)) ∧ Below w.heap.size w w' := by
  refine enter Tryz.func83 (by kernel_rfl) ?_ (by kernel_rfl)
  intro q0 h0
  replace h0 := h0.conv (l' := [(0, .int .i64 1), (1, .string s)]) rfl
  have hB := Bx.refl w
  refine kS ?_
  refine rp 1 ?_
  refine b0 (.C 0 4 <| .nil) [(4, .bool false), (0, .int .i64 1), (1, .string s)] h0 (Kw.nil hB) fun q1 h2 => ?_
  clear h0
  refine wpO_end ?_
  refine then_n ?_
  refine kS ?_
  refine rp 8 ?_
  refine b0 (.C 0 8 <| .C 1 9 <| .nil) [(9, .string s), (8, .int .i64 1), (4, .bool false)] h2 (Kw.nil hB) fun q3 h4 => ?_
  clear h2
  refine sC 2 10 h4 gok_none (c63_1 s w) ?_
  rintro _ w9 ⟨at'7, E8, rfl, hE12, hb10⟩
  have hB11 := hB.call hb10
  refine ⟨_, rfl, trivial, fun q5 h6 => ?_⟩
  clear h4 hB hb10
  refine b0 (.C 3 7 <| .E 4 11 (.int .i64 at'7) <| .E 5 12 (.int .i64 E8) <| .C 6 5 <| .C 7 6 <| .nil) [(6, .int .i64 E8), (4, .bool false)] h6 (Kw.nil hB11) fun q13 h14 => ?_
  clear h6
  refine wpO_end ?_
  refine then_n ?_
  refine kS ?_
  refine rp 3 ?_
  refine b0 (.C 0 13 <| .E 1 14 (.bool (E8 == (0 : Int))) <| .C 2 4 <| .nil) [(4, .bool (E8 == (0 : Int)))] h14 (Kw.nil hB11) fun q15 h16 => ?_
  clear h14
  refine wpO_end ?_
  refine then_n ?_
  refine c_ret (by kernel_rfl) ?_
  refine ret1 (t := 4) (v := .bool (E8 == (0 : Int))) h16 (by kernel_rfl) (by kernel_rfl) ?_
  exact ⟨ret_eq (congrArg Value.bool hE12), hB11.bel⟩

set_option maxHeartbeats 4000000 in
set_option maxRecDepth 20000 in
theorem c50_2 (s : ByteArray) (w : World) : Calls Tryz.prog 83 #[.int .i64 2, .string s] w fun e w' => e = .returned (.bool (rfB s)) ∧ Below w.heap.size w w' := by
  refine enter Tryz.func83 (by kernel_rfl) ?_ (by kernel_rfl)
  intro q0 h0
  replace h0 := h0.conv (l' := [(0, .int .i64 2), (1, .string s)]) rfl
  have hB := Bx.refl w
  refine kS ?_
  refine rp 1 ?_
  refine b0 (.C 0 4 <| .nil) [(4, .bool false), (0, .int .i64 2), (1, .string s)] h0 (Kw.nil hB) fun q1 h2 => ?_
  clear h0
  refine wpO_end ?_
  refine then_n ?_
  refine kS ?_
  refine rp 8 ?_
  refine b0 (.C 0 8 <| .C 1 9 <| .nil) [(9, .string s), (8, .int .i64 2), (4, .bool false)] h2 (Kw.nil hB) fun q3 h4 => ?_
  clear h2
  refine sC 2 10 h4 gok_none (c63_2 s w) ?_
  rintro _ w9 ⟨at'7, E8, rfl, hE12, hb10⟩
  have hB11 := hB.call hb10
  refine ⟨_, rfl, trivial, fun q5 h6 => ?_⟩
  clear h4 hB hb10
  refine b0 (.C 3 7 <| .E 4 11 (.int .i64 at'7) <| .E 5 12 (.int .i64 E8) <| .C 6 5 <| .C 7 6 <| .nil) [(6, .int .i64 E8), (4, .bool false)] h6 (Kw.nil hB11) fun q13 h14 => ?_
  clear h6
  refine wpO_end ?_
  refine then_n ?_
  refine kS ?_
  refine rp 3 ?_
  refine b0 (.C 0 13 <| .E 1 14 (.bool (E8 == (0 : Int))) <| .C 2 4 <| .nil) [(4, .bool (E8 == (0 : Int)))] h14 (Kw.nil hB11) fun q15 h16 => ?_
  clear h14
  refine wpO_end ?_
  refine then_n ?_
  refine c_ret (by kernel_rfl) ?_
  refine ret1 (t := 4) (v := .bool (E8 == (0 : Int))) h16 (by kernel_rfl) (by kernel_rfl) ?_
  exact ⟨ret_eq (congrArg Value.bool hE12), hB11.bel⟩

def dayB (n : Int) : Bool := decide (0 ≤ n) && decide (n ≤ 73048)

set_option maxHeartbeats 4000000 in
set_option maxRecDepth 20000 in
theorem c51 (n : Int) (w : World) : Calls Tryz.prog 84 #[.int .i64 n] w fun e w' => e = .returned (.bool (dayB n)) ∧ Below w.heap.size w w' := by
  refine enter Tryz.func84 (by kernel_rfl) ?_ (by kernel_rfl)
  intro q0 h0
  replace h0 := h0.conv (l' := [(0, .int .i64 n)]) rfl
  have hB := Bx.refl w
  refine kS ?_
  refine rp 1 ?_
  refine b0 (.C 0 2 <| .nil) [(2, .bool false), (0, .int .i64 n)] h0 (Kw.nil hB) fun q1 h2 => ?_
  clear h0
  refine wpO_end ?_
  refine then_n ?_
  refine kS ?_
  refine rp 7 ?_
  refine b0 (.C 0 3 <| .E 1 4 (.bool (decide ((0 : Int) ≤ n))) <| .C 2 5 <| .J 5 8 5 7 true (decide ((0 : Int) ≤ n)) (decide (n ≤ (73048 : Int))) (.C 3 6 <| .E 4 7 (.bool (decide (n ≤ (73048 : Int)))) <| .nil) <| .C 6 2 <| .nil) [(2, .bool ((decide ((0 : Int) ≤ n)) && (decide (n ≤ (73048 : Int)))))] h2 (Kw.nil hB) fun q3 h4 => ?_
  clear h2
  refine wpO_end ?_
  refine then_n ?_
  refine c_ret (by kernel_rfl) ?_
  refine ret1 (t := 2) (v := .bool ((decide ((0 : Int) ≤ n)) && (decide (n ≤ (73048 : Int))))) h4 (by kernel_rfl) (by kernel_rfl) ?_
  exact ⟨ret_eq (rfl), hB.bel⟩

end Go.Proofs.YtljegdokbifoiaaGreatDoor.Af
