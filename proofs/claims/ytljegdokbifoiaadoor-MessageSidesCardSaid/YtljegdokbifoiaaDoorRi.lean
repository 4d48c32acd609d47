/- The reference's identifiers: characters, lengths, check digits. Short strings. -/
import Derived.Test.YtljegdokbifoiaaDoorIrp
namespace Go.Proofs.YtljegdokbifoiaaDoor.Af
open Go.RowKit
set_option maxHeartbeats 4000000 in
set_option maxRecDepth 20000 in
theorem c71_0 (j c : Int) (w : World) : Calls Tryd.prog 71 #[.int .i64 0, .int .i64 j, .int .u8 c] w fun e w' => e = .returned (.bool (mayB 0 j c)) ∧ Below w.heap.size w w' := by
  refine enter Tryd.func71 (by kernel_rfl) ?_ (by kernel_rfl)
  intro q0 h0
  replace h0 := h0.conv (l' := [(0, .int .i64 0), (1, .int .i64 j), (2, .int .u8 c)]) rfl
  have hB := Bx.refl w
  refine c_seq (by kernel_rfl) ?_
  refine reg_plain [(0, false)] (by kernel_rfl) (by kernel_rfl) ?_
  refine eE 0 6 (.assign (.const (.bool false))) 4 (.bool false) h0 fun q1 h2 => ?_
  clear h0
  refine wpO_end ?_
  refine then_n ?_
  refine c_seq (by kernel_rfl) ?_
  refine c_seq (by kernel_rfl) ?_
  refine reg_plain [(0, false)] (by kernel_rfl) (by kernel_rfl) ?_
  refine eE 0 7 (.move (.tmp 0)) 3 (.int .i64 0) h2 fun q3 h4 => ?_
  clear h2
  refine wpO_end ?_
  have h5 := h4.keep [(7, .int .i64 0), (6, .bool false), (1, .int .i64 j), (2, .int .u8 c)] ⟨rfl, rfl, rfl, rfl, trivial⟩
  clear h4
  refine then_n ?_
  refine c_block 0 (by kernel_rfl) ?_
  refine c_seq (by kernel_rfl) ?_
  refine reg_plain [(0, false), (1, false)] (by kernel_rfl) (by kernel_rfl) ?_
  refine eE 0 9 (.binOp .eql 3 (.tmp 7) (.const (.int .i64 0)) 3) 4 (.bool true) h5 fun q6 h7 => ?_
  clear h5
  refine eE 1 8 (.assign (.tmp 9)) 4 (.bool true) h7 fun q8 h9 => ?_
  clear h7
  refine wpO_end ?_
  have h10 := h9.keep [(8, .bool true), (7, .int .i64 0), (6, .bool false), (1, .int .i64 j), (2, .int .u8 c)] ⟨rfl, rfl, rfl, rfl, rfl, trivial⟩
  clear h9
  refine then_n ?_
  refine c_cond (t := 8) (b := true) h10 (by kernel_rfl) (by kernel_rfl) (fun _ => ?_) (fun e11 => Bool.noConfusion (e11.symm.trans (rfl)))
  refine c_seq (by kernel_rfl) ?_
  refine reg_plain [(0, false), (1, false), (2, false), (3, false), (4, false), (5, false), (6, false), (7, false), (8, false), (9, false), (10, false), (11, false), (12, false), (13, false), (14, false), (15, false), (16, false), (17, false), (18, false), (19, false), (20, false), (21, false), (22, false), (23, false), (24, false), (25, false), (26, false), (27, false), (28, false), (29, false), (30, false)] (by kernel_rfl) (by kernel_rfl) ?_
  refine eE 0 10 (.move (.tmp 1)) 3 (.int .i64 j) h10 fun q12 h13 => ?_
  clear h10
  refine eE 1 11 (.binOp .lss 3 (.tmp 10) (.const (.int .i64 2)) 3) 4 (.bool (decide (j < (2 : Int)))) h13 fun q14 h15 => ?_
  clear h13
  refine eE 2 12 (.move (.tmp 11)) 4 (.bool (decide (j < (2 : Int)))) h15 fun q16 h17 => ?_
  clear h15
  refine wpO_cut [(3, false), (4, false), (5, false)] [(6, false), (7, false), (8, false), (9, false), (10, false), (11, false), (12, false), (13, false), (14, false), (15, false), (16, false), (17, false), (18, false), (19, false), (20, false), (21, false), (22, false), (23, false), (24, false), (25, false), (26, false), (27, false), (28, false), (29, false), (30, false)] (fun qa qw => Fr 74 [(15, .bool ((decide (j < (2 : Int))) && (letterB c))), (7, .int .i64 0), (6, .bool false), (1, .int .i64 j), (2, .int .u8 c)] qa ∧ Bx w [] qw) ?_ ?_
  ·
    rcases Bool.eq_false_or_eq_true (decide (j < (2 : Int))) with hc18 | hc18
    ·
      refine eG 3 13 (.move (.tmp 2)) 5 (2, true) (.int .u8 c) (g1 12 hc18) h17 fun q19 h20 => ?_
      clear h17
      refine stC (i := 4) (d := 14) (op := Op.call { callee := Callee.value (Operand.func 92), args := #[Operand.tmp 13], argTypes := #[5] }) (ty := 4) (g := (some (2, true))) (f := 92) (args := #[.int .u8 c]) (w1 := w) h20 (by kernel_rfl) (by kernel_rfl) (by kernel_rfl) (g1 12 hc18) (by kernel_rfl) (c92 c w) ?_
      rintro _ w23 ⟨rfl, hb24⟩
      have hB25 := hB.call hb24
      refine ⟨_, rfl, trivial, fun q21 h22 => ?_⟩
      clear h20 hB hb24
      refine eE 5 15 (.pick (.tmp 12) (.tmp 14) (.const (.bool false))) 4 (.bool ((decide (j < (2 : Int))) && (letterB c))) h22 (hr := r_and (c := decide (j < (2 : Int))) (d := (letterB c)) (by kernel_rfl) (fun _ => by kernel_rfl)) fun q26 h27 => ?_
      clear h22
      exact ⟨h27.keep _ ⟨rfl, rfl, rfl, rfl, rfl, trivial⟩, hB25⟩
    ·
      refine kE 3 13 (2, true) (g3 12 hc18) h17 trivial fun q28 h29 => ?_
      clear h17
      refine kE 4 14 (2, true) (g3 12 hc18) h29 trivial fun q30 h31 => ?_
      clear h29
      refine eE 5 15 (.pick (.tmp 12) (.tmp 14) (.const (.bool false))) 4 (.bool ((decide (j < (2 : Int))) && (letterB c))) h31 (hr := r_and (c := decide (j < (2 : Int))) (d := (letterB c)) (by kernel_rfl) (fun e34 => Bool.noConfusion (e34.symm.trans hc18))) fun q32 h33 => ?_
      clear h31
      exact ⟨h33.keep _ ⟨rfl, rfl, rfl, rfl, rfl, trivial⟩, hB⟩
  rintro q35 w36 ⟨h37, hB38⟩
  refine eE 6 16 (.move (.tmp 15)) 4 (.bool ((decide (j < (2 : Int))) && (letterB c))) h37 fun q39 h40 => ?_
  clear h37
  refine wpO_cut [(7, false), (8, false), (9, false), (10, false), (11, false), (12, false), (13, false), (14, false), (15, false), (16, false), (17, false), (18, false), (19, false), (20, false), (21, false)] [(22, false), (23, false), (24, false), (25, false), (26, false), (27, false), (28, false), (29, false), (30, false)] (fun qa qw => Fr 74 [(31, .bool (((decide (j < (2 : Int))) && (letterB c)) || (((decide ((2 : Int) ≤ j)) && (decide (j < (11 : Int)))) && ((letterB c) || (digitB c))))), (7, .int .i64 0), (6, .bool false), (1, .int .i64 j), (2, .int .u8 c)] qa ∧ Bx w [] qw) ?_ ?_
  ·
    rcases Bool.eq_false_or_eq_true ((decide (j < (2 : Int))) && (letterB c)) with hc41 | hc41
    ·
      refine kE 7 17 (6, false) (g4 16 hc41) h40 trivial fun q42 h43 => ?_
      clear h40
      refine kE 8 18 (6, false) (g4 16 hc41) h43 trivial fun q44 h45 => ?_
      clear h43
      refine kE 9 19 (6, false) (g4 16 hc41) h45 trivial fun q46 h47 => ?_
      clear h45
      refine kE 10 20 (9, true) (g0 19) h47 trivial fun q48 h49 => ?_
      clear h47
      refine kE 11 21 (9, true) (g0 19) h49 trivial fun q50 h51 => ?_
      clear h49
      refine kE 12 22 (6, false) (g4 16 hc41) h51 trivial fun q52 h53 => ?_
      clear h51
      refine kE 13 23 (6, false) (g4 16 hc41) h53 trivial fun q54 h55 => ?_
      clear h53
      refine kE 14 24 (13, true) (g0 23) h55 trivial fun q56 h57 => ?_
      clear h55
      refine kE 15 25 (13, true) (g0 23) h57 trivial fun q58 h59 => ?_
      clear h57
      refine kE 16 26 (13, true) (g0 23) h59 trivial fun q60 h61 => ?_
      clear h59
      refine kE 17 27 (16, false) (g0 26) h61 trivial fun q62 h63 => ?_
      clear h61
      refine kE 18 28 (16, false) (g0 26) h63 trivial fun q64 h65 => ?_
      clear h63
      refine kE 19 29 (13, true) (g0 23) h65 trivial fun q66 h67 => ?_
      clear h65
      refine kE 20 30 (6, false) (g4 16 hc41) h67 trivial fun q68 h69 => ?_
      clear h67
      refine eE 21 31 (.pick (.tmp 16) (.const (.bool true)) (.tmp 30)) 4 (.bool (((decide (j < (2 : Int))) && (letterB c)) || (((decide ((2 : Int) ≤ j)) && (decide (j < (11 : Int)))) && ((letterB c) || (digitB c))))) h69 (hr := r_or (c := (decide (j < (2 : Int))) && (letterB c)) (d := (((decide ((2 : Int) ≤ j)) && (decide (j < (11 : Int)))) && ((letterB c) || (digitB c)))) (by kernel_rfl) (fun e72 => Bool.noConfusion (e72.symm.trans hc41))) fun q70 h71 => ?_
      clear h69
      exact ⟨h71.keep _ ⟨rfl, rfl, rfl, rfl, rfl, trivial⟩, hB38⟩
    ·
      refine eG 7 17 (.move (.tmp 1)) 3 (6, false) (.int .i64 j) (g2 16 hc41) h40 fun q73 h74 => ?_
      clear h40
      refine eG 8 18 (.binOp .geq 3 (.tmp 17) (.const (.int .i64 2)) 3) 4 (6, false) (.bool (decide ((2 : Int) ≤ j))) (g2 16 hc41) h74 fun q75 h76 => ?_
      clear h74
      refine eG 9 19 (.move (.tmp 18)) 4 (6, false) (.bool (decide ((2 : Int) ≤ j))) (g2 16 hc41) h76 fun q77 h78 => ?_
      clear h76
      refine wpO_cut [(10, false), (11, false), (12, false)] [(13, false), (14, false), (15, false), (16, false), (17, false), (18, false), (19, false), (20, false), (21, false)] (fun qa qw => Fr 74 [(22, .bool ((decide ((2 : Int) ≤ j)) && (decide (j < (11 : Int))))), (16, .bool ((decide (j < (2 : Int))) && (letterB c))), (7, .int .i64 0), (6, .bool false), (1, .int .i64 j), (2, .int .u8 c)] qa ∧ Bx w [] qw) ?_ ?_
      ·
        rcases Bool.eq_false_or_eq_true (decide ((2 : Int) ≤ j)) with hc79 | hc79
        ·
          refine eG 10 20 (.move (.tmp 1)) 3 (9, true) (.int .i64 j) (g1 19 hc79) h78 fun q80 h81 => ?_
          clear h78
          refine eG 11 21 (.binOp .lss 3 (.tmp 20) (.const (.int .i64 11)) 3) 4 (9, true) (.bool (decide (j < (11 : Int)))) (g1 19 hc79) h81 fun q82 h83 => ?_
          clear h81
          refine eG 12 22 (.pick (.tmp 19) (.tmp 21) (.const (.bool false))) 4 (6, false) (.bool ((decide ((2 : Int) ≤ j)) && (decide (j < (11 : Int))))) (g2 16 hc41) h83 (hr := r_and (c := decide ((2 : Int) ≤ j)) (d := (decide (j < (11 : Int)))) (by kernel_rfl) (fun _ => by kernel_rfl)) fun q84 h85 => ?_
          clear h83
          exact ⟨h85.keep _ ⟨rfl, rfl, rfl, rfl, rfl, rfl, trivial⟩, hB38⟩
        ·
          refine kE 10 20 (9, true) (g3 19 hc79) h78 trivial fun q86 h87 => ?_
          clear h78
          refine kE 11 21 (9, true) (g3 19 hc79) h87 trivial fun q88 h89 => ?_
          clear h87
          refine eG 12 22 (.pick (.tmp 19) (.tmp 21) (.const (.bool false))) 4 (6, false) (.bool ((decide ((2 : Int) ≤ j)) && (decide (j < (11 : Int))))) (g2 16 hc41) h89 (hr := r_and (c := decide ((2 : Int) ≤ j)) (d := (decide (j < (11 : Int)))) (by kernel_rfl) (fun e92 => Bool.noConfusion (e92.symm.trans hc79))) fun q90 h91 => ?_
          clear h89
          exact ⟨h91.keep _ ⟨rfl, rfl, rfl, rfl, rfl, rfl, trivial⟩, hB38⟩
      rintro q93 w94 ⟨h95, hB96⟩
      refine eG 13 23 (.move (.tmp 22)) 4 (6, false) (.bool ((decide ((2 : Int) ≤ j)) && (decide (j < (11 : Int))))) (g2 16 hc41) h95 fun q97 h98 => ?_
      clear h95
      refine wpO_cut [(14, false), (15, false), (16, false), (17, false), (18, false), (19, false), (20, false)] [(21, false)] (fun qa qw => Fr 74 [(30, .bool (((decide ((2 : Int) ≤ j)) && (decide (j < (11 : Int)))) && ((letterB c) || (digitB c)))), (16, .bool ((decide (j < (2 : Int))) && (letterB c))), (7, .int .i64 0), (6, .bool false), (1, .int .i64 j), (2, .int .u8 c)] qa ∧ Bx w [] qw) ?_ ?_
      ·
        rcases Bool.eq_false_or_eq_true ((decide ((2 : Int) ≤ j)) && (decide (j < (11 : Int)))) with hc99 | hc99
        ·
          refine eG 14 24 (.move (.tmp 2)) 5 (13, true) (.int .u8 c) (g1 23 hc99) h98 fun q100 h101 => ?_
          clear h98
          refine stC (i := 15) (d := 25) (op := Op.call { callee := Callee.value (Operand.func 92), args := #[Operand.tmp 24], argTypes := #[5] }) (ty := 4) (g := (some (13, true))) (f := 92) (args := #[.int .u8 c]) (w1 := w94) h101 (by kernel_rfl) (by kernel_rfl) (by kernel_rfl) (g1 23 hc99) (by kernel_rfl) (c92 c w94) ?_
          rintro _ w104 ⟨rfl, hb105⟩
          have hB106 := hB96.call hb105
          refine ⟨_, rfl, trivial, fun q102 h103 => ?_⟩
          clear h101 hB96 hb105
          refine eG 16 26 (.move (.tmp 25)) 4 (13, true) (.bool (letterB c)) (g1 23 hc99) h103 fun q107 h108 => ?_
          clear h103
          refine wpO_cut [(17, false), (18, false), (19, false)] [(20, false)] (fun qa qw => Fr 74 [(29, .bool ((letterB c) || (digitB c))), (23, .bool ((decide ((2 : Int) ≤ j)) && (decide (j < (11 : Int))))), (16, .bool ((decide (j < (2 : Int))) && (letterB c))), (7, .int .i64 0), (6, .bool false), (1, .int .i64 j), (2, .int .u8 c)] qa ∧ Bx w [] qw) ?_ ?_
          ·
            rcases Bool.eq_false_or_eq_true (letterB c) with hc109 | hc109
            ·
              refine kE 17 27 (16, false) (g4 26 hc109) h108 trivial fun q110 h111 => ?_
              clear h108
              refine kE 18 28 (16, false) (g4 26 hc109) h111 trivial fun q112 h113 => ?_
              clear h111
              refine eG 19 29 (.pick (.tmp 26) (.const (.bool true)) (.tmp 28)) 4 (13, true) (.bool ((letterB c) || (digitB c))) (g1 23 hc99) h113 (hr := r_or (c := letterB c) (d := (digitB c)) (by kernel_rfl) (fun e116 => Bool.noConfusion (e116.symm.trans hc109))) fun q114 h115 => ?_
              clear h113
              exact ⟨h115.keep _ ⟨rfl, rfl, rfl, rfl, rfl, rfl, rfl, trivial⟩, hB106⟩
            ·
              refine eG 17 27 (.move (.tmp 2)) 5 (16, false) (.int .u8 c) (g2 26 hc109) h108 fun q117 h118 => ?_
              clear h108
              refine stC (i := 18) (d := 28) (op := Op.call { callee := Callee.value (Operand.func 93), args := #[Operand.tmp 27], argTypes := #[5] }) (ty := 4) (g := (some (16, false))) (f := 93) (args := #[.int .u8 c]) (w1 := w104) h118 (by kernel_rfl) (by kernel_rfl) (by kernel_rfl) (g2 26 hc109) (by kernel_rfl) (c93 c w104) ?_
              rintro _ w121 ⟨rfl, hb122⟩
              have hB123 := hB106.call hb122
              refine ⟨_, rfl, trivial, fun q119 h120 => ?_⟩
              clear h118 hB106 hb122
              refine eG 19 29 (.pick (.tmp 26) (.const (.bool true)) (.tmp 28)) 4 (13, true) (.bool ((letterB c) || (digitB c))) (g1 23 hc99) h120 (hr := r_or (c := letterB c) (d := (digitB c)) (by kernel_rfl) (fun _ => by kernel_rfl)) fun q124 h125 => ?_
              clear h120
              exact ⟨h125.keep _ ⟨rfl, rfl, rfl, rfl, rfl, rfl, rfl, trivial⟩, hB123⟩
          rintro q126 w127 ⟨h128, hB129⟩
          refine eG 20 30 (.pick (.tmp 23) (.tmp 29) (.const (.bool false))) 4 (6, false) (.bool (((decide ((2 : Int) ≤ j)) && (decide (j < (11 : Int)))) && ((letterB c) || (digitB c)))) (g2 16 hc41) h128 (hr := r_and (c := (decide ((2 : Int) ≤ j)) && (decide (j < (11 : Int)))) (d := ((letterB c) || (digitB c))) (by kernel_rfl) (fun _ => by kernel_rfl)) fun q130 h131 => ?_
          clear h128
          exact ⟨h131.keep _ ⟨rfl, rfl, rfl, rfl, rfl, rfl, trivial⟩, hB129⟩
        ·
          refine kE 14 24 (13, true) (g3 23 hc99) h98 trivial fun q132 h133 => ?_
          clear h98
          refine kE 15 25 (13, true) (g3 23 hc99) h133 trivial fun q134 h135 => ?_
          clear h133
          refine kE 16 26 (13, true) (g3 23 hc99) h135 trivial fun q136 h137 => ?_
          clear h135
          refine kE 17 27 (16, false) (g0 26) h137 trivial fun q138 h139 => ?_
          clear h137
          refine kE 18 28 (16, false) (g0 26) h139 trivial fun q140 h141 => ?_
          clear h139
          refine kE 19 29 (13, true) (g3 23 hc99) h141 trivial fun q142 h143 => ?_
          clear h141
          refine eG 20 30 (.pick (.tmp 23) (.tmp 29) (.const (.bool false))) 4 (6, false) (.bool (((decide ((2 : Int) ≤ j)) && (decide (j < (11 : Int)))) && ((letterB c) || (digitB c)))) (g2 16 hc41) h143 (hr := r_and (c := (decide ((2 : Int) ≤ j)) && (decide (j < (11 : Int)))) (d := ((letterB c) || (digitB c))) (by kernel_rfl) (fun e146 => Bool.noConfusion (e146.symm.trans hc99))) fun q144 h145 => ?_
          clear h143
          exact ⟨h145.keep _ ⟨rfl, rfl, rfl, rfl, rfl, rfl, trivial⟩, hB96⟩
      rintro q147 w148 ⟨h149, hB150⟩
      refine eE 21 31 (.pick (.tmp 16) (.const (.bool true)) (.tmp 30)) 4 (.bool (((decide (j < (2 : Int))) && (letterB c)) || (((decide ((2 : Int) ≤ j)) && (decide (j < (11 : Int)))) && ((letterB c) || (digitB c))))) h149 (hr := r_or (c := (decide (j < (2 : Int))) && (letterB c)) (d := (((decide ((2 : Int) ≤ j)) && (decide (j < (11 : Int)))) && ((letterB c) || (digitB c)))) (by kernel_rfl) (fun _ => by kernel_rfl)) fun q151 h152 => ?_
      clear h149
      exact ⟨h152.keep _ ⟨rfl, rfl, rfl, rfl, rfl, trivial⟩, hB150⟩
  rintro q153 w154 ⟨h155, hB156⟩
  refine eE 22 32 (.move (.tmp 31)) 4 (.bool (((decide (j < (2 : Int))) && (letterB c)) || (((decide ((2 : Int) ≤ j)) && (decide (j < (11 : Int)))) && ((letterB c) || (digitB c))))) h155 fun q157 h158 => ?_
  clear h155
  refine wpO_cut [(23, false), (24, false), (25, false), (26, false), (27, false), (28, false), (29, false)] [(30, false)] (fun qa qw => Fr 74 [(39, .bool ((((decide (j < (2 : Int))) && (letterB c)) || (((decide ((2 : Int) ≤ j)) && (decide (j < (11 : Int)))) && ((letterB c) || (digitB c)))) || ((j == (11 : Int)) && (digitB c)))), (7, .int .i64 0), (6, .bool false), (1, .int .i64 j), (2, .int .u8 c)] qa ∧ Bx w [] qw) ?_ ?_
  ·
    rcases Bool.eq_false_or_eq_true (((decide (j < (2 : Int))) && (letterB c)) || (((decide ((2 : Int) ≤ j)) && (decide (j < (11 : Int)))) && ((letterB c) || (digitB c)))) with hc159 | hc159
    ·
      refine kE 23 33 (22, false) (g4 32 hc159) h158 trivial fun q160 h161 => ?_
      clear h158
      refine kE 24 34 (22, false) (g4 32 hc159) h161 trivial fun q162 h163 => ?_
      clear h161
      refine kE 25 35 (22, false) (g4 32 hc159) h163 trivial fun q164 h165 => ?_
      clear h163
      refine kE 26 36 (25, true) (g0 35) h165 trivial fun q166 h167 => ?_
      clear h165
      refine kE 27 37 (25, true) (g0 35) h167 trivial fun q168 h169 => ?_
      clear h167
      refine kE 28 38 (22, false) (g4 32 hc159) h169 trivial fun q170 h171 => ?_
      clear h169
      refine eE 29 39 (.pick (.tmp 32) (.const (.bool true)) (.tmp 38)) 4 (.bool ((((decide (j < (2 : Int))) && (letterB c)) || (((decide ((2 : Int) ≤ j)) && (decide (j < (11 : Int)))) && ((letterB c) || (digitB c)))) || ((j == (11 : Int)) && (digitB c)))) h171 (hr := r_or (c := ((decide (j < (2 : Int))) && (letterB c)) || (((decide ((2 : Int) ≤ j)) && (decide (j < (11 : Int)))) && ((letterB c) || (digitB c)))) (d := ((j == (11 : Int)) && (digitB c))) (by kernel_rfl) (fun e174 => Bool.noConfusion (e174.symm.trans hc159))) fun q172 h173 => ?_
      clear h171
      exact ⟨h173.keep _ ⟨rfl, rfl, rfl, rfl, rfl, trivial⟩, hB156⟩
    ·
      refine eG 23 33 (.move (.tmp 1)) 3 (22, false) (.int .i64 j) (g2 32 hc159) h158 fun q175 h176 => ?_
      clear h158
      refine eG 24 34 (.binOp .eql 3 (.tmp 33) (.const (.int .i64 11)) 3) 4 (22, false) (.bool (j == (11 : Int))) (g2 32 hc159) h176 fun q177 h178 => ?_
      clear h176
      refine eG 25 35 (.move (.tmp 34)) 4 (22, false) (.bool (j == (11 : Int))) (g2 32 hc159) h178 fun q179 h180 => ?_
      clear h178
      refine wpO_cut [(26, false), (27, false), (28, false)] [(29, false)] (fun qa qw => Fr 74 [(38, .bool ((j == (11 : Int)) && (digitB c))), (32, .bool (((decide (j < (2 : Int))) && (letterB c)) || (((decide ((2 : Int) ≤ j)) && (decide (j < (11 : Int)))) && ((letterB c) || (digitB c))))), (7, .int .i64 0), (6, .bool false), (1, .int .i64 j), (2, .int .u8 c)] qa ∧ Bx w [] qw) ?_ ?_
      ·
        rcases Bool.eq_false_or_eq_true (j == (11 : Int)) with hc181 | hc181
        ·
          refine eG 26 36 (.move (.tmp 2)) 5 (25, true) (.int .u8 c) (g1 35 hc181) h180 fun q182 h183 => ?_
          clear h180
          refine stC (i := 27) (d := 37) (op := Op.call { callee := Callee.value (Operand.func 93), args := #[Operand.tmp 36], argTypes := #[5] }) (ty := 4) (g := (some (25, true))) (f := 93) (args := #[.int .u8 c]) (w1 := w154) h183 (by kernel_rfl) (by kernel_rfl) (by kernel_rfl) (g1 35 hc181) (by kernel_rfl) (c93 c w154) ?_
          rintro _ w186 ⟨rfl, hb187⟩
          have hB188 := hB156.call hb187
          refine ⟨_, rfl, trivial, fun q184 h185 => ?_⟩
          clear h183 hB156 hb187
          refine eG 28 38 (.pick (.tmp 35) (.tmp 37) (.const (.bool false))) 4 (22, false) (.bool ((j == (11 : Int)) && (digitB c))) (g2 32 hc159) h185 (hr := r_and (c := (j == (11 : Int))) (d := (digitB c)) (by kernel_rfl) (fun _ => by kernel_rfl)) fun q189 h190 => ?_
          clear h185
          exact ⟨h190.keep _ ⟨rfl, rfl, rfl, rfl, rfl, rfl, trivial⟩, hB188⟩
        ·
          refine kE 26 36 (25, true) (g3 35 hc181) h180 trivial fun q191 h192 => ?_
          clear h180
          refine kE 27 37 (25, true) (g3 35 hc181) h192 trivial fun q193 h194 => ?_
          clear h192
          refine eG 28 38 (.pick (.tmp 35) (.tmp 37) (.const (.bool false))) 4 (22, false) (.bool ((j == (11 : Int)) && (digitB c))) (g2 32 hc159) h194 (hr := r_and (c := (j == (11 : Int))) (d := (digitB c)) (by kernel_rfl) (fun e197 => Bool.noConfusion (e197.symm.trans hc181))) fun q195 h196 => ?_
          clear h194
          exact ⟨h196.keep _ ⟨rfl, rfl, rfl, rfl, rfl, rfl, trivial⟩, hB156⟩
      rintro q198 w199 ⟨h200, hB201⟩
      refine eE 29 39 (.pick (.tmp 32) (.const (.bool true)) (.tmp 38)) 4 (.bool ((((decide (j < (2 : Int))) && (letterB c)) || (((decide ((2 : Int) ≤ j)) && (decide (j < (11 : Int)))) && ((letterB c) || (digitB c)))) || ((j == (11 : Int)) && (digitB c)))) h200 (hr := r_or (c := ((decide (j < (2 : Int))) && (letterB c)) || (((decide ((2 : Int) ≤ j)) && (decide (j < (11 : Int)))) && ((letterB c) || (digitB c)))) (d := ((j == (11 : Int)) && (digitB c))) (by kernel_rfl) (fun _ => by kernel_rfl)) fun q202 h203 => ?_
      clear h200
      exact ⟨h203.keep _ ⟨rfl, rfl, rfl, rfl, rfl, trivial⟩, hB201⟩
  rintro q204 w205 ⟨h206, hB207⟩
  refine eE 30 6 (.assign (.tmp 39)) 4 (.bool ((((decide (j < (2 : Int))) && (letterB c)) || (((decide ((2 : Int) ≤ j)) && (decide (j < (11 : Int)))) && ((letterB c) || (digitB c)))) || ((j == (11 : Int)) && (digitB c)))) h206 fun q208 h209 => ?_
  clear h206
  refine wpO_end ?_
  have h210 := h209.keep [(6, .bool ((((decide (j < (2 : Int))) && (letterB c)) || (((decide ((2 : Int) ≤ j)) && (decide (j < (11 : Int)))) && ((letterB c) || (digitB c)))) || ((j == (11 : Int)) && (digitB c)))), (7, .int .i64 0), (1, .int .i64 j), (2, .int .u8 c)] ⟨rfl, rfl, rfl, rfl, trivial⟩
  clear h209
  refine then_n ?_
  refine c_ret (by kernel_rfl) ?_
  refine inB_r (then_r ?_)
  refine ret1 (t := 6) (v := .bool ((((decide (j < (2 : Int))) && (letterB c)) || (((decide ((2 : Int) ≤ j)) && (decide (j < (11 : Int)))) && ((letterB c) || (digitB c)))) || ((j == (11 : Int)) && (digitB c)))) h210 (by kernel_rfl) (by kernel_rfl) ?_
  exact ⟨ret_eq (rfl), hB207.bel⟩

set_option maxHeartbeats 4000000 in
set_option maxRecDepth 20000 in
theorem c71_1 (j c : Int) (w : World) : Calls Tryd.prog 71 #[.int .i64 1, .int .i64 j, .int .u8 c] w fun e w' => e = .returned (.bool (mayB 1 j c)) ∧ Below w.heap.size w w' := by
  refine enter Tryd.func71 (by kernel_rfl) ?_ (by kernel_rfl)
  intro q0 h0
  replace h0 := h0.conv (l' := [(0, .int .i64 1), (1, .int .i64 j), (2, .int .u8 c)]) rfl
  have hB := Bx.refl w
  refine c_seq (by kernel_rfl) ?_
  refine reg_plain [(0, false)] (by kernel_rfl) (by kernel_rfl) ?_
  refine eE 0 6 (.assign (.const (.bool false))) 4 (.bool false) h0 fun q1 h2 => ?_
  clear h0
  refine wpO_end ?_
  refine then_n ?_
  refine c_seq (by kernel_rfl) ?_
  refine c_seq (by kernel_rfl) ?_
  refine reg_plain [(0, false)] (by kernel_rfl) (by kernel_rfl) ?_
  refine eE 0 7 (.move (.tmp 0)) 3 (.int .i64 1) h2 fun q3 h4 => ?_
  clear h2
  refine wpO_end ?_
  have h5 := h4.keep [(7, .int .i64 1), (6, .bool false), (1, .int .i64 j), (2, .int .u8 c)] ⟨rfl, rfl, rfl, rfl, trivial⟩
  clear h4
  refine then_n ?_
  refine c_block 0 (by kernel_rfl) ?_
  refine c_seq (by kernel_rfl) ?_
  refine reg_plain [(0, false), (1, false)] (by kernel_rfl) (by kernel_rfl) ?_
  refine eE 0 9 (.binOp .eql 3 (.tmp 7) (.const (.int .i64 0)) 3) 4 (.bool false) h5 fun q6 h7 => ?_
  clear h5
  refine eE 1 8 (.assign (.tmp 9)) 4 (.bool false) h7 fun q8 h9 => ?_
  clear h7
  refine wpO_end ?_
  have h10 := h9.keep [(8, .bool false), (7, .int .i64 1), (6, .bool false), (1, .int .i64 j), (2, .int .u8 c)] ⟨rfl, rfl, rfl, rfl, rfl, trivial⟩
  clear h9
  refine then_n ?_
  refine c_cond (t := 8) (b := false) h10 (by kernel_rfl) (by kernel_rfl) (fun e11 => Bool.noConfusion (e11.symm.trans (rfl))) (fun _ => ?_)
  refine c_seq (by kernel_rfl) ?_
  refine reg_plain [(0, false), (1, false)] (by kernel_rfl) (by kernel_rfl) ?_
  refine eE 0 41 (.binOp .eql 3 (.tmp 7) (.const (.int .i64 1)) 3) 4 (.bool true) h10 fun q12 h13 => ?_
  clear h10
  refine eE 1 40 (.assign (.tmp 41)) 4 (.bool true) h13 fun q14 h15 => ?_
  clear h13
  refine wpO_end ?_
  have h16 := h15.keep [(40, .bool true), (7, .int .i64 1), (6, .bool false), (1, .int .i64 j), (2, .int .u8 c)] ⟨rfl, rfl, rfl, rfl, rfl, trivial⟩
  clear h15
  refine then_n ?_
  refine c_cond (t := 40) (b := true) h16 (by kernel_rfl) (by kernel_rfl) (fun _ => ?_) (fun e17 => Bool.noConfusion (e17.symm.trans (rfl)))
  refine c_seq (by kernel_rfl) ?_
  refine reg_plain [(0, false), (1, false), (2, false), (3, false), (4, false), (5, false), (6, false), (7, false), (8, false), (9, false), (10, false)] (by kernel_rfl) (by kernel_rfl) ?_
  refine eE 0 42 (.move (.tmp 2)) 5 (.int .u8 c) h16 fun q18 h19 => ?_
  clear h16
  refine stC (i := 1) (d := 43) (op := Op.call { callee := Callee.value (Operand.func 92), args := #[Operand.tmp 42], argTypes := #[5] }) (ty := 4) (g := none) (f := 92) (args := #[.int .u8 c]) (w1 := w) h19 (by kernel_rfl) (by kernel_rfl) (by kernel_rfl) gok_none (by kernel_rfl) (c92 c w) ?_
  rintro _ w22 ⟨rfl, hb23⟩
  have hB24 := hB.call hb23
  refine ⟨_, rfl, trivial, fun q20 h21 => ?_⟩
  clear h19 hB hb23
  refine eE 2 44 (.move (.tmp 43)) 4 (.bool (letterB c)) h21 fun q25 h26 => ?_
  clear h21
  refine wpO_cut [(3, false), (4, false), (5, false), (6, false), (7, false), (8, false), (9, false)] [(10, false)] (fun qa qw => Fr 74 [(51, .bool ((letterB c) || ((decide ((0 : Int) < j)) && (digitB c)))), (7, .int .i64 1), (6, .bool false), (1, .int .i64 j), (2, .int .u8 c)] qa ∧ Bx w [] qw) ?_ ?_
  ·
    rcases Bool.eq_false_or_eq_true (letterB c) with hc27 | hc27
    ·
      refine kE 3 45 (2, false) (g4 44 hc27) h26 trivial fun q28 h29 => ?_
      clear h26
      refine kE 4 46 (2, false) (g4 44 hc27) h29 trivial fun q30 h31 => ?_
      clear h29
      refine kE 5 47 (2, false) (g4 44 hc27) h31 trivial fun q32 h33 => ?_
      clear h31
      refine kE 6 48 (5, true) (g0 47) h33 trivial fun q34 h35 => ?_
      clear h33
      refine kE 7 49 (5, true) (g0 47) h35 trivial fun q36 h37 => ?_
      clear h35
      refine kE 8 50 (2, false) (g4 44 hc27) h37 trivial fun q38 h39 => ?_
      clear h37
      refine eE 9 51 (.pick (.tmp 44) (.const (.bool true)) (.tmp 50)) 4 (.bool ((letterB c) || ((decide ((0 : Int) < j)) && (digitB c)))) h39 (hr := r_or (c := letterB c) (d := ((decide ((0 : Int) < j)) && (digitB c))) (by kernel_rfl) (fun e42 => Bool.noConfusion (e42.symm.trans hc27))) fun q40 h41 => ?_
      clear h39
      exact ⟨h41.keep _ ⟨rfl, rfl, rfl, rfl, rfl, trivial⟩, hB24⟩
    ·
      refine eG 3 45 (.move (.tmp 1)) 3 (2, false) (.int .i64 j) (g2 44 hc27) h26 fun q43 h44 => ?_
      clear h26
      refine eG 4 46 (.binOp .gtr 3 (.tmp 45) (.const (.int .i64 0)) 3) 4 (2, false) (.bool (decide ((0 : Int) < j))) (g2 44 hc27) h44 fun q45 h46 => ?_
      clear h44
      refine eG 5 47 (.move (.tmp 46)) 4 (2, false) (.bool (decide ((0 : Int) < j))) (g2 44 hc27) h46 fun q47 h48 => ?_
      clear h46
      refine wpO_cut [(6, false), (7, false), (8, false)] [(9, false)] (fun qa qw => Fr 74 [(50, .bool ((decide ((0 : Int) < j)) && (digitB c))), (44, .bool (letterB c)), (7, .int .i64 1), (6, .bool false), (1, .int .i64 j), (2, .int .u8 c)] qa ∧ Bx w [] qw) ?_ ?_
      ·
        rcases Bool.eq_false_or_eq_true (decide ((0 : Int) < j)) with hc49 | hc49
        ·
          refine eG 6 48 (.move (.tmp 2)) 5 (5, true) (.int .u8 c) (g1 47 hc49) h48 fun q50 h51 => ?_
          clear h48
          refine stC (i := 7) (d := 49) (op := Op.call { callee := Callee.value (Operand.func 93), args := #[Operand.tmp 48], argTypes := #[5] }) (ty := 4) (g := (some (5, true))) (f := 93) (args := #[.int .u8 c]) (w1 := w22) h51 (by kernel_rfl) (by kernel_rfl) (by kernel_rfl) (g1 47 hc49) (by kernel_rfl) (c93 c w22) ?_
          rintro _ w54 ⟨rfl, hb55⟩
          have hB56 := hB24.call hb55
          refine ⟨_, rfl, trivial, fun q52 h53 => ?_⟩
          clear h51 hB24 hb55
          refine eG 8 50 (.pick (.tmp 47) (.tmp 49) (.const (.bool false))) 4 (2, false) (.bool ((decide ((0 : Int) < j)) && (digitB c))) (g2 44 hc27) h53 (hr := r_and (c := decide ((0 : Int) < j)) (d := (digitB c)) (by kernel_rfl) (fun _ => by kernel_rfl)) fun q57 h58 => ?_
          clear h53
          exact ⟨h58.keep _ ⟨rfl, rfl, rfl, rfl, rfl, rfl, trivial⟩, hB56⟩
        ·
          refine kE 6 48 (5, true) (g3 47 hc49) h48 trivial fun q59 h60 => ?_
          clear h48
          refine kE 7 49 (5, true) (g3 47 hc49) h60 trivial fun q61 h62 => ?_
          clear h60
          refine eG 8 50 (.pick (.tmp 47) (.tmp 49) (.const (.bool false))) 4 (2, false) (.bool ((decide ((0 : Int) < j)) && (digitB c))) (g2 44 hc27) h62 (hr := r_and (c := decide ((0 : Int) < j)) (d := (digitB c)) (by kernel_rfl) (fun e65 => Bool.noConfusion (e65.symm.trans hc49))) fun q63 h64 => ?_
          clear h62
          exact ⟨h64.keep _ ⟨rfl, rfl, rfl, rfl, rfl, rfl, trivial⟩, hB24⟩
      rintro q66 w67 ⟨h68, hB69⟩
      refine eE 9 51 (.pick (.tmp 44) (.const (.bool true)) (.tmp 50)) 4 (.bool ((letterB c) || ((decide ((0 : Int) < j)) && (digitB c)))) h68 (hr := r_or (c := letterB c) (d := ((decide ((0 : Int) < j)) && (digitB c))) (by kernel_rfl) (fun _ => by kernel_rfl)) fun q70 h71 => ?_
      clear h68
      exact ⟨h71.keep _ ⟨rfl, rfl, rfl, rfl, rfl, trivial⟩, hB69⟩
  rintro q72 w73 ⟨h74, hB75⟩
  refine eE 10 6 (.assign (.tmp 51)) 4 (.bool ((letterB c) || ((decide ((0 : Int) < j)) && (digitB c)))) h74 fun q76 h77 => ?_
  clear h74
  refine wpO_end ?_
  have h78 := h77.keep [(6, .bool ((letterB c) || ((decide ((0 : Int) < j)) && (digitB c)))), (7, .int .i64 1), (1, .int .i64 j), (2, .int .u8 c)] ⟨rfl, rfl, rfl, rfl, trivial⟩
  clear h77
  refine then_n ?_
  refine c_ret (by kernel_rfl) ?_
  refine inB_r (then_r ?_)
  refine ret1 (t := 6) (v := .bool ((letterB c) || ((decide ((0 : Int) < j)) && (digitB c)))) h78 (by kernel_rfl) (by kernel_rfl) ?_
  exact ⟨ret_eq (rfl), hB75.bel⟩

set_option maxHeartbeats 4000000 in
set_option maxRecDepth 20000 in
theorem c71_2 (j c : Int) (w : World) : Calls Tryd.prog 71 #[.int .i64 2, .int .i64 j, .int .u8 c] w fun e w' => e = .returned (.bool (mayB 2 j c)) ∧ Below w.heap.size w w' := by
  refine enter Tryd.func71 (by kernel_rfl) ?_ (by kernel_rfl)
  intro q0 h0
  replace h0 := h0.conv (l' := [(0, .int .i64 2), (1, .int .i64 j), (2, .int .u8 c)]) rfl
  have hB := Bx.refl w
  refine c_seq (by kernel_rfl) ?_
  refine reg_plain [(0, false)] (by kernel_rfl) (by kernel_rfl) ?_
  refine eE 0 6 (.assign (.const (.bool false))) 4 (.bool false) h0 fun q1 h2 => ?_
  clear h0
  refine wpO_end ?_
  refine then_n ?_
  refine c_seq (by kernel_rfl) ?_
  refine c_seq (by kernel_rfl) ?_
  refine reg_plain [(0, false)] (by kernel_rfl) (by kernel_rfl) ?_
  refine eE 0 7 (.move (.tmp 0)) 3 (.int .i64 2) h2 fun q3 h4 => ?_
  clear h2
  refine wpO_end ?_
  have h5 := h4.keep [(7, .int .i64 2), (6, .bool false), (1, .int .i64 j), (2, .int .u8 c)] ⟨rfl, rfl, rfl, rfl, trivial⟩
  clear h4
  refine then_n ?_
  refine c_block 0 (by kernel_rfl) ?_
  refine c_seq (by kernel_rfl) ?_
  refine reg_plain [(0, false), (1, false)] (by kernel_rfl) (by kernel_rfl) ?_
  refine eE 0 9 (.binOp .eql 3 (.tmp 7) (.const (.int .i64 0)) 3) 4 (.bool false) h5 fun q6 h7 => ?_
  clear h5
  refine eE 1 8 (.assign (.tmp 9)) 4 (.bool false) h7 fun q8 h9 => ?_
  clear h7
  refine wpO_end ?_
  have h10 := h9.keep [(8, .bool false), (7, .int .i64 2), (6, .bool false), (1, .int .i64 j), (2, .int .u8 c)] ⟨rfl, rfl, rfl, rfl, rfl, trivial⟩
  clear h9
  refine then_n ?_
  refine c_cond (t := 8) (b := false) h10 (by kernel_rfl) (by kernel_rfl) (fun e11 => Bool.noConfusion (e11.symm.trans (rfl))) (fun _ => ?_)
  refine c_seq (by kernel_rfl) ?_
  refine reg_plain [(0, false), (1, false)] (by kernel_rfl) (by kernel_rfl) ?_
  refine eE 0 41 (.binOp .eql 3 (.tmp 7) (.const (.int .i64 1)) 3) 4 (.bool false) h10 fun q12 h13 => ?_
  clear h10
  refine eE 1 40 (.assign (.tmp 41)) 4 (.bool false) h13 fun q14 h15 => ?_
  clear h13
  refine wpO_end ?_
  have h16 := h15.keep [(40, .bool false), (7, .int .i64 2), (6, .bool false), (1, .int .i64 j), (2, .int .u8 c)] ⟨rfl, rfl, rfl, rfl, rfl, trivial⟩
  clear h15
  refine then_n ?_
  refine c_cond (t := 40) (b := false) h16 (by kernel_rfl) (by kernel_rfl) (fun e17 => Bool.noConfusion (e17.symm.trans (rfl))) (fun _ => ?_)
  refine c_seq (by kernel_rfl) ?_
  refine reg_plain [(0, false), (1, false)] (by kernel_rfl) (by kernel_rfl) ?_
  refine eE 0 53 (.binOp .eql 3 (.tmp 7) (.const (.int .i64 2)) 3) 4 (.bool true) h16 fun q18 h19 => ?_
  clear h16
  refine eE 1 52 (.assign (.tmp 53)) 4 (.bool true) h19 fun q20 h21 => ?_
  clear h19
  refine wpO_end ?_
  have h22 := h21.keep [(52, .bool true), (6, .bool false), (1, .int .i64 j), (2, .int .u8 c)] ⟨rfl, rfl, rfl, rfl, trivial⟩
  clear h21
  refine then_n ?_
  refine c_cond (t := 52) (b := true) h22 (by kernel_rfl) (by kernel_rfl) (fun _ => ?_) (fun e23 => Bool.noConfusion (e23.symm.trans (rfl)))
  refine c_seq (by kernel_rfl) ?_
  refine reg_plain [(0, false), (1, false), (2, false), (3, false), (4, false), (5, false), (6, false), (7, false), (8, false), (9, false), (10, false)] (by kernel_rfl) (by kernel_rfl) ?_
  refine eE 0 54 (.move (.tmp 2)) 5 (.int .u8 c) h22 fun q24 h25 => ?_
  clear h22
  refine stC (i := 1) (d := 55) (op := Op.call { callee := Callee.value (Operand.func 92), args := #[Operand.tmp 54], argTypes := #[5] }) (ty := 4) (g := none) (f := 92) (args := #[.int .u8 c]) (w1 := w) h25 (by kernel_rfl) (by kernel_rfl) (by kernel_rfl) gok_none (by kernel_rfl) (c92 c w) ?_
  rintro _ w28 ⟨rfl, hb29⟩
  have hB30 := hB.call hb29
  refine ⟨_, rfl, trivial, fun q26 h27 => ?_⟩
  clear h25 hB hb29
  refine eE 2 56 (.move (.tmp 55)) 4 (.bool (letterB c)) h27 fun q31 h32 => ?_
  clear h27
  refine wpO_cut [(3, false), (4, false), (5, false)] [(6, false), (7, false), (8, false), (9, false), (10, false)] (fun qa qw => Fr 74 [(59, .bool ((letterB c) || (digitB c))), (6, .bool false), (1, .int .i64 j), (2, .int .u8 c)] qa ∧ Bx w [] qw) ?_ ?_
  ·
    rcases Bool.eq_false_or_eq_true (letterB c) with hc33 | hc33
    ·
      refine kE 3 57 (2, false) (g4 56 hc33) h32 trivial fun q34 h35 => ?_
      clear h32
      refine kE 4 58 (2, false) (g4 56 hc33) h35 trivial fun q36 h37 => ?_
      clear h35
      refine eE 5 59 (.pick (.tmp 56) (.const (.bool true)) (.tmp 58)) 4 (.bool ((letterB c) || (digitB c))) h37 (hr := r_or (c := letterB c) (d := (digitB c)) (by kernel_rfl) (fun e40 => Bool.noConfusion (e40.symm.trans hc33))) fun q38 h39 => ?_
      clear h37
      exact ⟨h39.keep _ ⟨rfl, rfl, rfl, rfl, trivial⟩, hB30⟩
    ·
      refine eG 3 57 (.move (.tmp 2)) 5 (2, false) (.int .u8 c) (g2 56 hc33) h32 fun q41 h42 => ?_
      clear h32
      refine stC (i := 4) (d := 58) (op := Op.call { callee := Callee.value (Operand.func 93), args := #[Operand.tmp 57], argTypes := #[5] }) (ty := 4) (g := (some (2, false))) (f := 93) (args := #[.int .u8 c]) (w1 := w28) h42 (by kernel_rfl) (by kernel_rfl) (by kernel_rfl) (g2 56 hc33) (by kernel_rfl) (c93 c w28) ?_
      rintro _ w45 ⟨rfl, hb46⟩
      have hB47 := hB30.call hb46
      refine ⟨_, rfl, trivial, fun q43 h44 => ?_⟩
      clear h42 hB30 hb46
      refine eE 5 59 (.pick (.tmp 56) (.const (.bool true)) (.tmp 58)) 4 (.bool ((letterB c) || (digitB c))) h44 (hr := r_or (c := letterB c) (d := (digitB c)) (by kernel_rfl) (fun _ => by kernel_rfl)) fun q48 h49 => ?_
      clear h44
      exact ⟨h49.keep _ ⟨rfl, rfl, rfl, rfl, trivial⟩, hB47⟩
  rintro q50 w51 ⟨h52, hB53⟩
  refine eE 6 60 (.move (.tmp 59)) 4 (.bool ((letterB c) || (digitB c))) h52 fun q54 h55 => ?_
  clear h52
  refine wpO_cut [(7, false), (8, false), (9, false)] [(10, false)] (fun qa qw => Fr 74 [(63, .bool (((letterB c) || (digitB c)) || (c == (45 : Int)))), (6, .bool false), (1, .int .i64 j), (2, .int .u8 c)] qa ∧ Bx w [] qw) ?_ ?_
  ·
    rcases Bool.eq_false_or_eq_true ((letterB c) || (digitB c)) with hc56 | hc56
    ·
      refine kE 7 61 (6, false) (g4 60 hc56) h55 trivial fun q57 h58 => ?_
      clear h55
      refine kE 8 62 (6, false) (g4 60 hc56) h58 trivial fun q59 h60 => ?_
      clear h58
      refine eE 9 63 (.pick (.tmp 60) (.const (.bool true)) (.tmp 62)) 4 (.bool (((letterB c) || (digitB c)) || (c == (45 : Int)))) h60 (hr := r_or (c := (letterB c) || (digitB c)) (d := (c == (45 : Int))) (by kernel_rfl) (fun e63 => Bool.noConfusion (e63.symm.trans hc56))) fun q61 h62 => ?_
      clear h60
      exact ⟨h62.keep _ ⟨rfl, rfl, rfl, rfl, trivial⟩, hB53⟩
    ·
      refine eG 7 61 (.move (.tmp 2)) 5 (6, false) (.int .u8 c) (g2 60 hc56) h55 fun q64 h65 => ?_
      clear h55
      refine eG 8 62 (.binOp .eql 5 (.tmp 61) (.const (.int .u8 45)) 5) 4 (6, false) (.bool (c == (45 : Int))) (g2 60 hc56) h65 fun q66 h67 => ?_
      clear h65
      refine eE 9 63 (.pick (.tmp 60) (.const (.bool true)) (.tmp 62)) 4 (.bool (((letterB c) || (digitB c)) || (c == (45 : Int)))) h67 (hr := r_or (c := (letterB c) || (digitB c)) (d := (c == (45 : Int))) (by kernel_rfl) (fun _ => by kernel_rfl)) fun q68 h69 => ?_
      clear h67
      exact ⟨h69.keep _ ⟨rfl, rfl, rfl, rfl, trivial⟩, hB53⟩
  rintro q70 w71 ⟨h72, hB73⟩
  refine eE 10 6 (.assign (.tmp 63)) 4 (.bool (((letterB c) || (digitB c)) || (c == (45 : Int)))) h72 fun q74 h75 => ?_
  clear h72
  refine wpO_end ?_
  have h76 := h75.keep [(6, .bool (((letterB c) || (digitB c)) || (c == (45 : Int)))), (1, .int .i64 j), (2, .int .u8 c)] ⟨rfl, rfl, rfl, trivial⟩
  clear h75
  refine then_n ?_
  refine c_ret (by kernel_rfl) ?_
  refine inB_r (then_r ?_)
  refine ret1 (t := 6) (v := .bool (((letterB c) || (digitB c)) || (c == (45 : Int)))) h76 (by kernel_rfl) (by kernel_rfl) ?_
  exact ⟨ret_eq (rfl), hB73.bel⟩

set_option maxHeartbeats 4000000 in
set_option maxRecDepth 20000 in
theorem c70_0  (w : World) : Calls Tryd.prog 70 #[.int .i64 0] w (fun e w' => e = .returned (.tuple #[.int .i64 12, .int .i64 12]) ∧ Below w.heap.size w w') := by
  refine enter Tryd.func70 (by kernel_rfl) ?_ (by kernel_rfl)
  intro q0 h0
  replace h0 := h0.conv (l' := [(0, .int .i64 0)]) rfl
  have hB := Bx.refl w
  refine c_seq (by kernel_rfl) ?_
  refine reg_plain [(0, false), (1, false)] (by kernel_rfl) (by kernel_rfl) ?_
  refine eE 0 2 (.assign (.const (.int .i64 0))) 3 (.int .i64 0) h0 fun q1 h2 => ?_
  clear h0
  refine eE 1 3 (.assign (.const (.int .i64 0))) 3 (.int .i64 0) h2 fun q3 h4 => ?_
  clear h2
  refine wpO_end ?_
  refine then_n ?_
  refine c_seq (by kernel_rfl) ?_
  refine c_seq (by kernel_rfl) ?_
  refine reg_plain [(0, false)] (by kernel_rfl) (by kernel_rfl) ?_
  refine eE 0 4 (.move (.tmp 0)) 3 (.int .i64 0) h4 fun q5 h6 => ?_
  clear h4
  refine wpO_end ?_
  have h7 := h6.keep [(4, .int .i64 0), (3, .int .i64 0), (2, .int .i64 0)] ⟨rfl, rfl, rfl, trivial⟩
  clear h6
  refine then_n ?_
  refine c_block 0 (by kernel_rfl) ?_
  refine c_seq (by kernel_rfl) ?_
  refine reg_plain [(0, false), (1, false)] (by kernel_rfl) (by kernel_rfl) ?_
  refine eE 0 6 (.binOp .eql 3 (.tmp 4) (.const (.int .i64 0)) 3) 4 (.bool true) h7 fun q8 h9 => ?_
  clear h7
  refine eE 1 5 (.assign (.tmp 6)) 4 (.bool true) h9 fun q10 h11 => ?_
  clear h9
  refine wpO_end ?_
  have h12 := h11.keep [(5, .bool true), (4, .int .i64 0), (3, .int .i64 0), (2, .int .i64 0)] ⟨rfl, rfl, rfl, rfl, trivial⟩
  clear h11
  refine then_n ?_
  refine c_cond (t := 5) (b := true) h12 (by kernel_rfl) (by kernel_rfl) (fun _ => ?_) (fun e13 => Bool.noConfusion (e13.symm.trans (rfl)))
  refine c_seq (by kernel_rfl) ?_
  refine reg_plain [(0, false), (1, false)] (by kernel_rfl) (by kernel_rfl) ?_
  refine eE 0 2 (.assign (.const (.int .i64 12))) 3 (.int .i64 12) h12 fun q14 h15 => ?_
  clear h12
  refine eE 1 3 (.assign (.const (.int .i64 12))) 3 (.int .i64 12) h15 fun q16 h17 => ?_
  clear h15
  refine wpO_end ?_
  have h18 := h17.keep [(3, .int .i64 12), (2, .int .i64 12), (4, .int .i64 0)] ⟨rfl, rfl, rfl, trivial⟩
  clear h17
  refine then_n ?_
  refine c_ret (by kernel_rfl) ?_
  refine inB_r (then_r ?_)
  refine ret2 (t := 2) (u := 3) (v := .int .i64 12) (v' := .int .i64 12) h18 (by kernel_rfl) (by kernel_rfl) (by kernel_rfl) ?_
  exact ⟨rfl, hB.bel⟩

set_option maxHeartbeats 4000000 in
set_option maxRecDepth 20000 in
theorem c70_1  (w : World) : Calls Tryd.prog 70 #[.int .i64 1] w (fun e w' => e = .returned (.tuple #[.int .i64 4, .int .i64 8]) ∧ Below w.heap.size w w') := by
  refine enter Tryd.func70 (by kernel_rfl) ?_ (by kernel_rfl)
  intro q0 h0
  replace h0 := h0.conv (l' := [(0, .int .i64 1)]) rfl
  have hB := Bx.refl w
  refine c_seq (by kernel_rfl) ?_
  refine reg_plain [(0, false), (1, false)] (by kernel_rfl) (by kernel_rfl) ?_
  refine eE 0 2 (.assign (.const (.int .i64 0))) 3 (.int .i64 0) h0 fun q1 h2 => ?_
  clear h0
  refine eE 1 3 (.assign (.const (.int .i64 0))) 3 (.int .i64 0) h2 fun q3 h4 => ?_
  clear h2
  refine wpO_end ?_
  refine then_n ?_
  refine c_seq (by kernel_rfl) ?_
  refine c_seq (by kernel_rfl) ?_
  refine reg_plain [(0, false)] (by kernel_rfl) (by kernel_rfl) ?_
  refine eE 0 4 (.move (.tmp 0)) 3 (.int .i64 1) h4 fun q5 h6 => ?_
  clear h4
  refine wpO_end ?_
  have h7 := h6.keep [(4, .int .i64 1), (3, .int .i64 0), (2, .int .i64 0)] ⟨rfl, rfl, rfl, trivial⟩
  clear h6
  refine then_n ?_
  refine c_block 0 (by kernel_rfl) ?_
  refine c_seq (by kernel_rfl) ?_
  refine reg_plain [(0, false), (1, false)] (by kernel_rfl) (by kernel_rfl) ?_
  refine eE 0 6 (.binOp .eql 3 (.tmp 4) (.const (.int .i64 0)) 3) 4 (.bool false) h7 fun q8 h9 => ?_
  clear h7
  refine eE 1 5 (.assign (.tmp 6)) 4 (.bool false) h9 fun q10 h11 => ?_
  clear h9
  refine wpO_end ?_
  have h12 := h11.keep [(5, .bool false), (4, .int .i64 1), (3, .int .i64 0), (2, .int .i64 0)] ⟨rfl, rfl, rfl, rfl, trivial⟩
  clear h11
  refine then_n ?_
  refine c_cond (t := 5) (b := false) h12 (by kernel_rfl) (by kernel_rfl) (fun e13 => Bool.noConfusion (e13.symm.trans (rfl))) (fun _ => ?_)
  refine c_seq (by kernel_rfl) ?_
  refine reg_plain [(0, false), (1, false)] (by kernel_rfl) (by kernel_rfl) ?_
  refine eE 0 8 (.binOp .eql 3 (.tmp 4) (.const (.int .i64 1)) 3) 4 (.bool true) h12 fun q14 h15 => ?_
  clear h12
  refine eE 1 7 (.assign (.tmp 8)) 4 (.bool true) h15 fun q16 h17 => ?_
  clear h15
  refine wpO_end ?_
  have h18 := h17.keep [(7, .bool true), (4, .int .i64 1), (3, .int .i64 0), (2, .int .i64 0)] ⟨rfl, rfl, rfl, rfl, trivial⟩
  clear h17
  refine then_n ?_
  refine c_cond (t := 7) (b := true) h18 (by kernel_rfl) (by kernel_rfl) (fun _ => ?_) (fun e19 => Bool.noConfusion (e19.symm.trans (rfl)))
  refine c_seq (by kernel_rfl) ?_
  refine reg_plain [(0, false), (1, false)] (by kernel_rfl) (by kernel_rfl) ?_
  refine eE 0 2 (.assign (.const (.int .i64 4))) 3 (.int .i64 4) h18 fun q20 h21 => ?_
  clear h18
  refine eE 1 3 (.assign (.const (.int .i64 8))) 3 (.int .i64 8) h21 fun q22 h23 => ?_
  clear h21
  refine wpO_end ?_
  have h24 := h23.keep [(3, .int .i64 8), (2, .int .i64 4), (4, .int .i64 1)] ⟨rfl, rfl, rfl, trivial⟩
  clear h23
  refine then_n ?_
  refine c_ret (by kernel_rfl) ?_
  refine inB_r (then_r ?_)
  refine ret2 (t := 2) (u := 3) (v := .int .i64 4) (v' := .int .i64 8) h24 (by kernel_rfl) (by kernel_rfl) (by kernel_rfl) ?_
  exact ⟨rfl, hB.bel⟩

set_option maxHeartbeats 4000000 in
set_option maxRecDepth 20000 in
theorem c70_2  (w : World) : Calls Tryd.prog 70 #[.int .i64 2] w (fun e w' => e = .returned (.tuple #[.int .i64 1, .int .i64 16]) ∧ Below w.heap.size w w') := by
  refine enter Tryd.func70 (by kernel_rfl) ?_ (by kernel_rfl)
  intro q0 h0
  replace h0 := h0.conv (l' := [(0, .int .i64 2)]) rfl
  have hB := Bx.refl w
  refine c_seq (by kernel_rfl) ?_
  refine reg_plain [(0, false), (1, false)] (by kernel_rfl) (by kernel_rfl) ?_
  refine eE 0 2 (.assign (.const (.int .i64 0))) 3 (.int .i64 0) h0 fun q1 h2 => ?_
  clear h0
  refine eE 1 3 (.assign (.const (.int .i64 0))) 3 (.int .i64 0) h2 fun q3 h4 => ?_
  clear h2
  refine wpO_end ?_
  refine then_n ?_
  refine c_seq (by kernel_rfl) ?_
  refine c_seq (by kernel_rfl) ?_
  refine reg_plain [(0, false)] (by kernel_rfl) (by kernel_rfl) ?_
  refine eE 0 4 (.move (.tmp 0)) 3 (.int .i64 2) h4 fun q5 h6 => ?_
  clear h4
  refine wpO_end ?_
  have h7 := h6.keep [(4, .int .i64 2), (3, .int .i64 0), (2, .int .i64 0)] ⟨rfl, rfl, rfl, trivial⟩
  clear h6
  refine then_n ?_
  refine c_block 0 (by kernel_rfl) ?_
  refine c_seq (by kernel_rfl) ?_
  refine reg_plain [(0, false), (1, false)] (by kernel_rfl) (by kernel_rfl) ?_
  refine eE 0 6 (.binOp .eql 3 (.tmp 4) (.const (.int .i64 0)) 3) 4 (.bool false) h7 fun q8 h9 => ?_
  clear h7
  refine eE 1 5 (.assign (.tmp 6)) 4 (.bool false) h9 fun q10 h11 => ?_
  clear h9
  refine wpO_end ?_
  have h12 := h11.keep [(5, .bool false), (4, .int .i64 2), (3, .int .i64 0), (2, .int .i64 0)] ⟨rfl, rfl, rfl, rfl, trivial⟩
  clear h11
  refine then_n ?_
  refine c_cond (t := 5) (b := false) h12 (by kernel_rfl) (by kernel_rfl) (fun e13 => Bool.noConfusion (e13.symm.trans (rfl))) (fun _ => ?_)
  refine c_seq (by kernel_rfl) ?_
  refine reg_plain [(0, false), (1, false)] (by kernel_rfl) (by kernel_rfl) ?_
  refine eE 0 8 (.binOp .eql 3 (.tmp 4) (.const (.int .i64 1)) 3) 4 (.bool false) h12 fun q14 h15 => ?_
  clear h12
  refine eE 1 7 (.assign (.tmp 8)) 4 (.bool false) h15 fun q16 h17 => ?_
  clear h15
  refine wpO_end ?_
  have h18 := h17.keep [(7, .bool false), (4, .int .i64 2), (3, .int .i64 0), (2, .int .i64 0)] ⟨rfl, rfl, rfl, rfl, trivial⟩
  clear h17
  refine then_n ?_
  refine c_cond (t := 7) (b := false) h18 (by kernel_rfl) (by kernel_rfl) (fun e19 => Bool.noConfusion (e19.symm.trans (rfl))) (fun _ => ?_)
  refine c_seq (by kernel_rfl) ?_
  refine reg_plain [(0, false), (1, false)] (by kernel_rfl) (by kernel_rfl) ?_
  refine eE 0 10 (.binOp .eql 3 (.tmp 4) (.const (.int .i64 2)) 3) 4 (.bool true) h18 fun q20 h21 => ?_
  clear h18
  refine eE 1 9 (.assign (.tmp 10)) 4 (.bool true) h21 fun q22 h23 => ?_
  clear h21
  refine wpO_end ?_
  have h24 := h23.keep [(9, .bool true), (3, .int .i64 0), (2, .int .i64 0)] ⟨rfl, rfl, rfl, trivial⟩
  clear h23
  refine then_n ?_
  refine c_cond (t := 9) (b := true) h24 (by kernel_rfl) (by kernel_rfl) (fun _ => ?_) (fun e25 => Bool.noConfusion (e25.symm.trans (rfl)))
  refine c_seq (by kernel_rfl) ?_
  refine reg_plain [(0, false), (1, false)] (by kernel_rfl) (by kernel_rfl) ?_
  refine eE 0 2 (.assign (.const (.int .i64 1))) 3 (.int .i64 1) h24 fun q26 h27 => ?_
  clear h24
  refine eE 1 3 (.assign (.const (.int .i64 16))) 3 (.int .i64 16) h27 fun q28 h29 => ?_
  clear h27
  refine wpO_end ?_
  have h30 := h29.keep [(3, .int .i64 16), (2, .int .i64 1)] ⟨rfl, rfl, trivial⟩
  clear h29
  refine then_n ?_
  refine c_ret (by kernel_rfl) ?_
  refine inB_r (then_r ?_)
  refine ret2 (t := 2) (u := 3) (v := .int .i64 1) (v' := .int .i64 16) h30 (by kernel_rfl) (by kernel_rfl) (by kernel_rfl) ?_
  exact ⟨rfl, hB.bel⟩

set_option maxHeartbeats 4000000 in
set_option maxRecDepth 20000 in
theorem c94 (s : ByteArray) (w : World) (hn : s.size ≤ 1000) (hC : ∀ c ∈ s.data.toList, okC c = true) : Calls Tryd.prog 94 #[.string s] w (fun e w' => ∃ v : Value, e = .returned v ∧ w'.ownsRow w.heap.size 3 1 v (digs s.data.toList).length ((digs s.data.toList).map intV) ∧ Below w.heap.size w w') := by
  refine enter Tryd.func94 (by kernel_rfl) ?_ (by kernel_rfl)
  intro q0 h0
  replace h0 := h0.conv (l' := [(0, .string s)]) rfl
  have hB := Bx.refl w
  refine c_seq (by kernel_rfl) ?_
  refine reg_plain [(0, false)] (by kernel_rfl) (by kernel_rfl) ?_
  refine eE 0 2 (.assign (.const (.slice none 0 0))) 125 (.slice none 0 0) h0 fun q1 h2 => ?_
  clear h0
  refine wpO_end ?_
  refine then_n ?_
  refine c_seq (by kernel_rfl) ?_
  refine reg_plain [(0, false)] (by kernel_rfl) (by kernel_rfl) ?_
  refine eE 0 3 (.assign (.const (.slice none 0 0))) 125 (.slice none 0 0) h2 fun q3 h4 => ?_
  clear h2
  refine wpO_end ?_
  refine then_n ?_
  refine c_seq (by kernel_rfl) ?_
  refine c_seq (by kernel_rfl) ?_
  refine reg_plain [(0, false)] (by kernel_rfl) (by kernel_rfl) ?_
  refine eE 0 4 (.assign (.const (.int .i64 0))) 3 (.int .i64 0) h4 fun q5 h6 => ?_
  clear h4
  refine wpO_end ?_
  refine then_n ?_
  refine c_block 0 (by kernel_rfl) ?_
  refine c_loop (by kernel_rfl) (fun qa qw => ∃ k : Nat, ∃ (v : Value), (k ≤ s.size) ∧ Fr 38 [(4, .int .i64 ((k : Nat) : Int)), (0, .string s), (3, v)] qa ∧ Bx w [] qw ∧ (qw.ownsRow w.heap.size 3 1 v (digs (s.data.toList.take k)).length ((digs (s.data.toList.take k)).map intV))) (fun qa _ => (((s.size : Int)) - intAt qa 4).toNat) ⟨0, .slice none 0 0, Nat.zero_le _, h6.keep _ ⟨rfl, rfl, rfl, trivial⟩, hB, own_nil _ _ _ _⟩ ?_
  rintro q7 w8 ⟨k, v, hk11, h9, hB10, hx13⟩
  have hm12 := h9.int (k := 4) (kd := .i64) (z := ((k : Nat) : Int)) rfl
  clear h6 hB
  refine c_seq (by kernel_rfl) ?_
  refine c_seq (by kernel_rfl) ?_
  refine reg_plain [(0, false), (1, false), (2, false), (3, false)] (by kernel_rfl) (by kernel_rfl) ?_
  refine eE 0 6 (.move (.tmp 4)) 3 (.int .i64 ((k : Nat) : Int)) h9 fun q14 h15 => ?_
  clear h9
  refine eE 1 7 (.move (.tmp 0)) 9 (.string s) h15 fun q16 h17 => ?_
  clear h15
  refine eE 2 8 (.call { callee := .builtin .len, args := #[.tmp 7], argTypes := #[9] }) 3 (.int .i64 ((s.size : Nat) : Int)) h17 fun q18 h19 => ?_
  clear h17
  refine eE 3 9 (.binOp .lss 3 (.tmp 6) (.tmp 8) 3) 4 (.bool (decide (((k : Nat) : Int) < ((s.size : Nat) : Int)))) h19 fun q20 h21 => ?_
  clear h19
  refine wpO_end ?_
  refine then_n ?_
  refine c_cond (t := 9) (b := decide (((k : Nat) : Int) < ((s.size : Nat) : Int))) h21 (by kernel_rfl) (by kernel_rfl) (fun hc22 => ?_) (fun hc22 => ?_)
  ·
    have hp23 : (((k : Nat) : Int) < ((s.size : Nat) : Int)) := of_decide_eq_true hc22
    have hlt : (k : Int) < (s.size : Int) := by omega
    have hg := getL hlt
    have hok := hC _ (List.mem_of_getElem? hg)
    have hdl := digs_len2 (s.data.toList.take k)
    rw [List.length_take] at hdl
    refine c_skip (by kernel_rfl) ?_
    refine then_n ?_
    refine c_seq (by kernel_rfl) ?_
    refine c_block 1 (by kernel_rfl) ?_
    refine c_seq (by kernel_rfl) ?_
    refine c_seq (by kernel_rfl) ?_
    refine reg_plain [(0, false), (1, false), (2, false), (3, false)] (by kernel_rfl) (by kernel_rfl) ?_
    refine eE 0 12 (.move (.tmp 0)) 9 (.string s) h21 fun q24 h25 => ?_
    clear h21
    refine eE 1 13 (.move (.tmp 4)) 3 (.int .i64 ((k : Nat) : Int)) h25 fun q26 h27 => ?_
    clear h25
    refine eE 2 14 (.index 9 (.tmp 12) (.tmp 13)) 5 (.int .u8 (((chAt s k).toNat : Nat) : Int)) h27 (hr := r_indexS (kd := .i64) (i := k) (b := (chAt s k)) (by kernel_rfl) (by kernel_rfl) (getS hlt) (by kernel_rfl)) fun q28 h29 => ?_
    clear h27
    refine stC (i := 3) (d := 15) (op := Op.call { callee := Callee.value (Operand.func 93), args := #[Operand.tmp 14], argTypes := #[5] }) (ty := 4) (g := none) (f := 93) (args := #[.int .u8 (((chAt s k).toNat : Nat) : Int)]) (w1 := w8) h29 (by kernel_rfl) (by kernel_rfl) (by kernel_rfl) gok_none (by kernel_rfl) (c93 (((chAt s k).toNat : Nat) : Int) w8) ?_
    rintro _ w32 ⟨rfl, hb33⟩
    have hB34 := hB10.call hb33
    have ho35 := own_below hx13 hb33
    refine ⟨_, rfl, trivial, fun q30 h31 => ?_⟩
    clear h29 hB10 hb33
    refine wpO_end ?_
    refine then_n ?_
    refine c_cond (t := 15) (b := digitB (((chAt s k).toNat : Nat) : Int)) h31 (by kernel_rfl) (by kernel_rfl) (fun hc36 => ?_) (fun hc36 => ?_)
    ·
      refine c_seq (by kernel_rfl) ?_
      refine reg_plain [(0, false), (1, false), (2, false), (3, false), (4, false), (5, false), (6, false), (7, false), (8, false)] (by kernel_rfl) (by kernel_rfl) ?_
      refine eE 0 16 (.move (.tmp 3)) 125 v h31 fun q37 h38 => ?_
      clear h31
      refine eE 1 17 (.move (.tmp 0)) 9 (.string s) h38 fun q39 h40 => ?_
      clear h38
      refine eE 2 18 (.move (.tmp 4)) 3 (.int .i64 ((k : Nat) : Int)) h40 fun q41 h42 => ?_
      clear h40
      refine eE 3 19 (.index 9 (.tmp 17) (.tmp 18)) 5 (.int .u8 (((chAt s k).toNat : Nat) : Int)) h42 (hr := r_indexS (kd := .i64) (i := k) (b := (chAt s k)) (by kernel_rfl) (by kernel_rfl) (getS hlt) (by kernel_rfl)) fun q43 h44 => ?_
      clear h42
      refine eE 4 20 (.binOp .sub 5 (.tmp 19) (.const (.int .u8 48)) 5) 5 (.int .u8 (IntKind.u8.wrap ((((chAt s k).toNat : Nat) : Int) - 48))) h44 fun q45 h46 => ?_
      clear h44
      refine eE 5 21 (.convert 5 3 (.tmp 20)) 3 (.int .i64 (IntKind.i64.wrap (IntKind.u8.wrap ((((chAt s k).toNat : Nat) : Int) - 48)))) h46 fun q47 h48 => ?_
      clear h46
      have h49 := h48.keep [(21, .int .i64 (((chAt s k).toNat - 48 : Nat) : Int)), (20, .int .u8 (IntKind.u8.wrap ((((chAt s k).toNat : Nat) : Int) - 48))), (19, .int .u8 (((chAt s k).toNat : Nat) : Int)), (18, .int .i64 ((k : Nat) : Int)), (17, .string s), (16, v), (15, .bool (digitB (((chAt s k).toNat : Nat) : Int))), (14, .int .u8 (((chAt s k).toNat : Nat) : Int)), (13, .int .i64 ((k : Nat) : Int)), (12, .string s), (9, .bool (decide (((k : Nat) : Int) < ((s.size : Nat) : Int)))), (8, .int .i64 ((s.size : Nat) : Int)), (7, .string s), (6, .int .i64 ((k : Nat) : Int)), (4, .int .i64 ((k : Nat) : Int)), (0, .string s), (3, v)] ⟨look_int rfl (dig_val _ hc36), rfl, rfl, rfl, rfl, rfl, rfl, rfl, rfl, rfl, rfl, rfl, rfl, rfl, rfl, rfl, rfl, trivial⟩
      clear h48
      refine stA (i := 6) (d := 22) (op := Op.buildSlice 125 1 #[(0, Operand.tmp 21)]) (ty := 125) (g := none) (mk := fun b => .slice (some ⟨b, 0, none⟩) 1 1) (o := .cells #[.int .i64 (((chAt s k).toNat - 48 : Nat) : Int)] 3 (0, 0)) h49 (by kernel_rfl) (by kernel_rfl) (by kernel_rfl) gok_none (fun _ => by kernel_rfl) hB34 (fun _ _ hq => trivial) (fun b52 w53 hB54 hN q50 h51 => ?_)
      have ho55 := own_below ho35 hN
      clear h49 hB34 hN
      have hr64 := Rd.of_blk (hB54.at 0 rfl)
      refine stApp (x := Operand.tmp 16) (y := Operand.tmp 22) (i := 7) (d := 23) (t := 125) (e := 3) (size := 1) (bytes := 8) (base := w.heap.size) (nn := (digs (s.data.toList.take k)).length) (m := 1) (c := 1) (ty := 125) (g := none) (v := v) (xs := ((digs (s.data.toList.take k)).map intV)) (news := [.int .i64 (((chAt s k).toNat - 48 : Nat) : Int)]) (ad := ⟨b52, 0, none⟩) h51 (by kernel_rfl) (by kernel_rfl) (by kernel_rfl) gok_none (by kernel_rfl) (by decide) (by kernel_rfl) (by kernel_rfl) ho55 (by kernel_rfl) (fun j u hj => by obtain ⟨ad', e1, -, h1⟩ := hr64 j u hj; cases e1; exact h1) (by intro u hu; revert u hu; simp only [List.forall_mem_cons]; exact ⟨rfl, fun _ h => absurd h (by simp)⟩) (by first | (unfold maxLen; omega) | omega) (by first | (unfold maxLen; omega) | omega) hB54.tail hB54.bel.size (Nat.le_refl _) (by kernel_rfl) (fun _ hq => trivial) (fun v58 w59 ho60 hg61 hB62 hz63 q56 h57 => ?_)
      clear h51 hB54 hr64
      refine eE 8 3 (.assign (.tmp 23)) 125 v58 h57 fun q65 h66 => ?_
      clear h57
      refine wpO_end ?_
      have h67 := h66.keep [(3, v58), (23, v58), (22, .slice (some ⟨b52, 0, none⟩) 1 1), (21, .int .i64 (((chAt s k).toNat - 48 : Nat) : Int)), (20, .int .u8 (IntKind.u8.wrap ((((chAt s k).toNat : Nat) : Int) - 48))), (19, .int .u8 (((chAt s k).toNat : Nat) : Int)), (18, .int .i64 ((k : Nat) : Int)), (17, .string s), (16, v), (15, .bool (digitB (((chAt s k).toNat : Nat) : Int))), (14, .int .u8 (((chAt s k).toNat : Nat) : Int)), (13, .int .i64 ((k : Nat) : Int)), (12, .string s), (9, .bool (decide (((k : Nat) : Int) < ((s.size : Nat) : Int)))), (8, .int .i64 ((s.size : Nat) : Int)), (7, .string s), (6, .int .i64 ((k : Nat) : Int)), (4, .int .i64 ((k : Nat) : Int)), (0, .string s)] ⟨rfl, rfl, rfl, rfl, rfl, rfl, rfl, rfl, rfl, rfl, rfl, rfl, rfl, rfl, rfl, rfl, rfl, rfl, rfl, trivial⟩
      clear h66
      refine then_n ?_
      refine c_exit 1 (by kernel_rfl) ?_
      refine then_e (inB_hit ?_)
      refine then_n ?_
      refine reg_plain [(0, false), (1, false), (2, false)] (by kernel_rfl) (by kernel_rfl) ?_
      refine eE 0 10 (.move (.tmp 4)) 3 (.int .i64 ((k : Nat) : Int)) h67 fun q68 h69 => ?_
      clear h67
      refine eE 1 11 (.binOp .add 3 (.tmp 10) (.const (.int .i64 1)) 3) 3 (.int .i64 (IntKind.i64.wrap (((k : Nat) : Int) + 1))) h69 fun q70 h71 => ?_
      clear h69
      refine eE 2 4 (.assign (.tmp 11)) 3 (.int .i64 (IntKind.i64.wrap (((k : Nat) : Int) + 1))) h71 fun q72 h73 => ?_
      clear h71
      refine wpO_end ?_
      have h74 := h73.keep [(4, .int .i64 (IntKind.i64.wrap (((k : Nat) : Int) + 1))), (11, .int .i64 (IntKind.i64.wrap (((k : Nat) : Int) + 1))), (10, .int .i64 ((k : Nat) : Int)), (3, v58), (23, v58), (22, .slice (some ⟨b52, 0, none⟩) 1 1), (21, .int .i64 (((chAt s k).toNat - 48 : Nat) : Int)), (20, .int .u8 (IntKind.u8.wrap ((((chAt s k).toNat : Nat) : Int) - 48))), (19, .int .u8 (((chAt s k).toNat : Nat) : Int)), (18, .int .i64 ((k : Nat) : Int)), (17, .string s), (16, v), (15, .bool (digitB (((chAt s k).toNat : Nat) : Int))), (14, .int .u8 (((chAt s k).toNat : Nat) : Int)), (13, .int .i64 ((k : Nat) : Int)), (12, .string s), (9, .bool (decide (((k : Nat) : Int) < ((s.size : Nat) : Int)))), (8, .int .i64 ((s.size : Nat) : Int)), (7, .string s), (6, .int .i64 ((k : Nat) : Int)), (0, .string s)] ⟨rfl, rfl, rfl, rfl, rfl, rfl, rfl, rfl, rfl, rfl, rfl, rfl, rfl, rfl, rfl, rfl, rfl, rfl, rfl, rfl, rfl, trivial⟩
      clear h73
      have h75 := h74.keep [(4, .int .i64 (((k + 1) : Nat) : Int)), (0, .string s), (3, v58)] ⟨look_int rfl (wrap_succ (by have := hn; omega)), rfl, rfl, trivial⟩
      have hm76 := h75.int (k := 4) (kd := .i64) (z := (((k + 1) : Nat) : Int)) rfl
      refine then_n ⟨⟨k + 1, v58, by omega, h75, hB62, digs_next1 hg hc36 ho60⟩, ?_⟩
      show (((s.size : Int)) - intAt _ 4).toNat < (((s.size : Int)) - intAt _ 4).toNat
      rw [hm12, hm76]; omega
    ·
      have hsm := expC_letter _ hok hc36
      refine c_skip (by kernel_rfl) ?_
      refine then_n ?_
      refine c_seq (by kernel_rfl) ?_
      refine reg_plain [(0, false), (1, false), (2, false), (3, false), (4, false), (5, false), (6, false)] (by kernel_rfl) (by kernel_rfl) ?_
      refine eE 0 24 (.move (.tmp 0)) 9 (.string s) h31 fun q77 h78 => ?_
      clear h31
      refine eE 1 25 (.move (.tmp 4)) 3 (.int .i64 ((k : Nat) : Int)) h78 fun q79 h80 => ?_
      clear h78
      refine eE 2 26 (.index 9 (.tmp 24) (.tmp 25)) 5 (.int .u8 (((chAt s k).toNat : Nat) : Int)) h80 (hr := r_indexS (kd := .i64) (i := k) (b := (chAt s k)) (by kernel_rfl) (by kernel_rfl) (getS hlt) (by kernel_rfl)) fun q81 h82 => ?_
      clear h80
      refine eE 3 27 (.binOp .sub 5 (.tmp 26) (.const (.int .u8 65)) 5) 5 (.int .u8 (IntKind.u8.wrap ((((chAt s k).toNat : Nat) : Int) - 65))) h82 fun q83 h84 => ?_
      clear h82
      refine eE 4 28 (.convert 5 3 (.tmp 27)) 3 (.int .i64 (IntKind.i64.wrap (IntKind.u8.wrap ((((chAt s k).toNat : Nat) : Int) - 65)))) h84 fun q85 h86 => ?_
      clear h84
      refine eE 5 29 (.binOp .add 3 (.tmp 28) (.const (.int .i64 10)) 3) 3 (.int .i64 (IntKind.i64.wrap ((IntKind.i64.wrap (IntKind.u8.wrap ((((chAt s k).toNat : Nat) : Int) - 65))) + 10))) h86 fun q87 h88 => ?_
      clear h86
      have h89 := h88.keep [(29, .int .i64 (((chAt s k).toNat - 55 : Nat) : Int)), (28, .int .i64 (IntKind.i64.wrap (IntKind.u8.wrap ((((chAt s k).toNat : Nat) : Int) - 65)))), (27, .int .u8 (IntKind.u8.wrap ((((chAt s k).toNat : Nat) : Int) - 65))), (26, .int .u8 (((chAt s k).toNat : Nat) : Int)), (25, .int .i64 ((k : Nat) : Int)), (24, .string s), (15, .bool (digitB (((chAt s k).toNat : Nat) : Int))), (14, .int .u8 (((chAt s k).toNat : Nat) : Int)), (13, .int .i64 ((k : Nat) : Int)), (12, .string s), (9, .bool (decide (((k : Nat) : Int) < ((s.size : Nat) : Int)))), (8, .int .i64 ((s.size : Nat) : Int)), (7, .string s), (6, .int .i64 ((k : Nat) : Int)), (4, .int .i64 ((k : Nat) : Int)), (0, .string s), (3, v)] ⟨look_int rfl (up_val _ hsm.2.2.1 hsm.2.2.2), rfl, rfl, rfl, rfl, rfl, rfl, rfl, rfl, rfl, rfl, rfl, rfl, rfl, rfl, rfl, rfl, trivial⟩
      clear h88
      refine eE 6 5 (.assign (.tmp 29)) 3 (.int .i64 (((chAt s k).toNat - 55 : Nat) : Int)) h89 fun q90 h91 => ?_
      clear h89
      refine wpO_end ?_
      refine then_n ?_
      refine reg_plain [(0, false), (1, false), (2, false), (3, false), (4, false), (5, false), (6, false), (7, false)] (by kernel_rfl) (by kernel_rfl) ?_
      refine eE 0 30 (.move (.tmp 3)) 125 v h91 fun q92 h93 => ?_
      clear h91
      refine eE 1 31 (.move (.tmp 5)) 3 (.int .i64 (((chAt s k).toNat - 55 : Nat) : Int)) h93 fun q94 h95 => ?_
      clear h93
      refine eE 2 32 (.binOp .quo 3 (.tmp 31) (.const (.int .i64 10)) 3) 3 (.int .i64 (IntKind.i64.wrap (Int.tdiv (((chAt s k).toNat - 55 : Nat) : Int) (10 : Int)))) h95 fun q96 h97 => ?_
      clear h95
      have h98 := h97.keep [(32, .int .i64 ((((chAt s k).toNat - 55) / 10 : Nat) : Int)), (31, .int .i64 (((chAt s k).toNat - 55 : Nat) : Int)), (30, v), (5, .int .i64 (((chAt s k).toNat - 55 : Nat) : Int)), (29, .int .i64 (((chAt s k).toNat - 55 : Nat) : Int)), (28, .int .i64 (IntKind.i64.wrap (IntKind.u8.wrap ((((chAt s k).toNat : Nat) : Int) - 65)))), (27, .int .u8 (IntKind.u8.wrap ((((chAt s k).toNat : Nat) : Int) - 65))), (26, .int .u8 (((chAt s k).toNat : Nat) : Int)), (25, .int .i64 ((k : Nat) : Int)), (24, .string s), (15, .bool (digitB (((chAt s k).toNat : Nat) : Int))), (14, .int .u8 (((chAt s k).toNat : Nat) : Int)), (13, .int .i64 ((k : Nat) : Int)), (12, .string s), (9, .bool (decide (((k : Nat) : Int) < ((s.size : Nat) : Int)))), (8, .int .i64 ((s.size : Nat) : Int)), (7, .string s), (6, .int .i64 ((k : Nat) : Int)), (4, .int .i64 ((k : Nat) : Int)), (0, .string s), (3, v)] ⟨look_int rfl (div_val _ (by omega)).1, rfl, rfl, rfl, rfl, rfl, rfl, rfl, rfl, rfl, rfl, rfl, rfl, rfl, rfl, rfl, rfl, rfl, rfl, rfl, rfl, trivial⟩
      clear h97
      refine eE 3 33 (.move (.tmp 5)) 3 (.int .i64 (((chAt s k).toNat - 55 : Nat) : Int)) h98 fun q99 h100 => ?_
      clear h98
      refine eE 4 34 (.binOp .rem 3 (.tmp 33) (.const (.int .i64 10)) 3) 3 (.int .i64 (Int.tmod (((chAt s k).toNat - 55 : Nat) : Int) (10 : Int))) h100 fun q101 h102 => ?_
      clear h100
      have h103 := h102.keep [(34, .int .i64 ((((chAt s k).toNat - 55) % 10 : Nat) : Int)), (33, .int .i64 (((chAt s k).toNat - 55 : Nat) : Int)), (32, .int .i64 ((((chAt s k).toNat - 55) / 10 : Nat) : Int)), (31, .int .i64 (((chAt s k).toNat - 55 : Nat) : Int)), (30, v), (5, .int .i64 (((chAt s k).toNat - 55 : Nat) : Int)), (29, .int .i64 (((chAt s k).toNat - 55 : Nat) : Int)), (28, .int .i64 (IntKind.i64.wrap (IntKind.u8.wrap ((((chAt s k).toNat : Nat) : Int) - 65)))), (27, .int .u8 (IntKind.u8.wrap ((((chAt s k).toNat : Nat) : Int) - 65))), (26, .int .u8 (((chAt s k).toNat : Nat) : Int)), (25, .int .i64 ((k : Nat) : Int)), (24, .string s), (15, .bool (digitB (((chAt s k).toNat : Nat) : Int))), (14, .int .u8 (((chAt s k).toNat : Nat) : Int)), (13, .int .i64 ((k : Nat) : Int)), (12, .string s), (9, .bool (decide (((k : Nat) : Int) < ((s.size : Nat) : Int)))), (8, .int .i64 ((s.size : Nat) : Int)), (7, .string s), (6, .int .i64 ((k : Nat) : Int)), (4, .int .i64 ((k : Nat) : Int)), (0, .string s), (3, v)] ⟨look_int rfl (div_val _ (by omega)).2, rfl, rfl, rfl, rfl, rfl, rfl, rfl, rfl, rfl, rfl, rfl, rfl, rfl, rfl, rfl, rfl, rfl, rfl, rfl, rfl, rfl, rfl, trivial⟩
      clear h102
      refine stA (i := 5) (d := 35) (op := Op.buildSlice 125 2 #[(0, Operand.tmp 32), (1, Operand.tmp 34)]) (ty := 125) (g := none) (mk := fun b => .slice (some ⟨b, 0, none⟩) 2 2) (o := .cells #[.int .i64 ((((chAt s k).toNat - 55) / 10 : Nat) : Int), .int .i64 ((((chAt s k).toNat - 55) % 10 : Nat) : Int)] 3 (0, 0)) h103 (by kernel_rfl) (by kernel_rfl) (by kernel_rfl) gok_none (fun _ => by kernel_rfl) hB34 (fun _ _ hq => trivial) (fun b106 w107 hB108 hN q104 h105 => ?_)
      have ho109 := own_below ho35 hN
      clear h103 hB34 hN
      have hr118 := Rd.of_blk (hB108.at 0 rfl)
      refine stApp (x := Operand.tmp 30) (y := Operand.tmp 35) (i := 6) (d := 36) (t := 125) (e := 3) (size := 1) (bytes := 8) (base := w.heap.size) (nn := (digs (s.data.toList.take k)).length) (m := 2) (c := 2) (ty := 125) (g := none) (v := v) (xs := ((digs (s.data.toList.take k)).map intV)) (news := [.int .i64 ((((chAt s k).toNat - 55) / 10 : Nat) : Int), .int .i64 ((((chAt s k).toNat - 55) % 10 : Nat) : Int)]) (ad := ⟨b106, 0, none⟩) h105 (by kernel_rfl) (by kernel_rfl) (by kernel_rfl) gok_none (by kernel_rfl) (by decide) (by kernel_rfl) (by kernel_rfl) ho109 (by kernel_rfl) (fun j u hj => by obtain ⟨ad', e1, -, h1⟩ := hr118 j u hj; cases e1; exact h1) (by intro u hu; revert u hu; simp only [List.forall_mem_cons]; exact ⟨rfl, rfl, fun _ h => absurd h (by simp)⟩) (by first | (unfold maxLen; omega) | omega) (by first | (unfold maxLen; omega) | omega) hB108.tail hB108.bel.size (Nat.le_refl _) (by kernel_rfl) (fun _ hq => trivial) (fun v112 w113 ho114 hg115 hB116 hz117 q110 h111 => ?_)
      clear h105 hB108 hr118
      refine eE 7 3 (.assign (.tmp 36)) 125 v112 h111 fun q119 h120 => ?_
      clear h111
      refine wpO_end ?_
      have h121 := h120.keep [(3, v112), (36, v112), (35, .slice (some ⟨b106, 0, none⟩) 2 2), (34, .int .i64 ((((chAt s k).toNat - 55) % 10 : Nat) : Int)), (33, .int .i64 (((chAt s k).toNat - 55 : Nat) : Int)), (32, .int .i64 ((((chAt s k).toNat - 55) / 10 : Nat) : Int)), (31, .int .i64 (((chAt s k).toNat - 55 : Nat) : Int)), (30, v), (5, .int .i64 (((chAt s k).toNat - 55 : Nat) : Int)), (29, .int .i64 (((chAt s k).toNat - 55 : Nat) : Int)), (28, .int .i64 (IntKind.i64.wrap (IntKind.u8.wrap ((((chAt s k).toNat : Nat) : Int) - 65)))), (27, .int .u8 (IntKind.u8.wrap ((((chAt s k).toNat : Nat) : Int) - 65))), (26, .int .u8 (((chAt s k).toNat : Nat) : Int)), (25, .int .i64 ((k : Nat) : Int)), (24, .string s), (15, .bool (digitB (((chAt s k).toNat : Nat) : Int))), (14, .int .u8 (((chAt s k).toNat : Nat) : Int)), (13, .int .i64 ((k : Nat) : Int)), (12, .string s), (9, .bool (decide (((k : Nat) : Int) < ((s.size : Nat) : Int)))), (8, .int .i64 ((s.size : Nat) : Int)), (7, .string s), (6, .int .i64 ((k : Nat) : Int)), (4, .int .i64 ((k : Nat) : Int)), (0, .string s)] ⟨rfl, rfl, rfl, rfl, rfl, rfl, rfl, rfl, rfl, rfl, rfl, rfl, rfl, rfl, rfl, rfl, rfl, rfl, rfl, rfl, rfl, rfl, rfl, rfl, rfl, trivial⟩
      clear h120
      refine inB_n ?_
      refine then_n ?_
      refine reg_plain [(0, false), (1, false), (2, false)] (by kernel_rfl) (by kernel_rfl) ?_
      refine eE 0 10 (.move (.tmp 4)) 3 (.int .i64 ((k : Nat) : Int)) h121 fun q122 h123 => ?_
      clear h121
      refine eE 1 11 (.binOp .add 3 (.tmp 10) (.const (.int .i64 1)) 3) 3 (.int .i64 (IntKind.i64.wrap (((k : Nat) : Int) + 1))) h123 fun q124 h125 => ?_
      clear h123
      refine eE 2 4 (.assign (.tmp 11)) 3 (.int .i64 (IntKind.i64.wrap (((k : Nat) : Int) + 1))) h125 fun q126 h127 => ?_
      clear h125
      refine wpO_end ?_
      have h128 := h127.keep [(4, .int .i64 (IntKind.i64.wrap (((k : Nat) : Int) + 1))), (11, .int .i64 (IntKind.i64.wrap (((k : Nat) : Int) + 1))), (10, .int .i64 ((k : Nat) : Int)), (3, v112), (36, v112), (35, .slice (some ⟨b106, 0, none⟩) 2 2), (34, .int .i64 ((((chAt s k).toNat - 55) % 10 : Nat) : Int)), (33, .int .i64 (((chAt s k).toNat - 55 : Nat) : Int)), (32, .int .i64 ((((chAt s k).toNat - 55) / 10 : Nat) : Int)), (31, .int .i64 (((chAt s k).toNat - 55 : Nat) : Int)), (30, v), (5, .int .i64 (((chAt s k).toNat - 55 : Nat) : Int)), (29, .int .i64 (((chAt s k).toNat - 55 : Nat) : Int)), (28, .int .i64 (IntKind.i64.wrap (IntKind.u8.wrap ((((chAt s k).toNat : Nat) : Int) - 65)))), (27, .int .u8 (IntKind.u8.wrap ((((chAt s k).toNat : Nat) : Int) - 65))), (26, .int .u8 (((chAt s k).toNat : Nat) : Int)), (25, .int .i64 ((k : Nat) : Int)), (24, .string s), (15, .bool (digitB (((chAt s k).toNat : Nat) : Int))), (14, .int .u8 (((chAt s k).toNat : Nat) : Int)), (13, .int .i64 ((k : Nat) : Int)), (12, .string s), (9, .bool (decide (((k : Nat) : Int) < ((s.size : Nat) : Int)))), (8, .int .i64 ((s.size : Nat) : Int)), (7, .string s), (6, .int .i64 ((k : Nat) : Int)), (0, .string s)] ⟨rfl, rfl, rfl, rfl, rfl, rfl, rfl, rfl, rfl, rfl, rfl, rfl, rfl, rfl, rfl, rfl, rfl, rfl, rfl, rfl, rfl, rfl, rfl, rfl, rfl, rfl, rfl, trivial⟩
      clear h127
      have h129 := h128.keep [(4, .int .i64 (((k + 1) : Nat) : Int)), (0, .string s), (3, v112)] ⟨look_int rfl (wrap_succ (by have := hn; omega)), rfl, rfl, trivial⟩
      have hm130 := h129.int (k := 4) (kd := .i64) (z := (((k + 1) : Nat) : Int)) rfl
      refine then_n ⟨⟨k + 1, v112, by omega, h129, hB116, digs_next2 hg hc36 ho114⟩, ?_⟩
      show (((s.size : Int)) - intAt _ 4).toNat < (((s.size : Int)) - intAt _ 4).toNat
      rw [hm12, hm130]; omega
  ·
    have hp131 : ¬ (((k : Nat) : Int) < ((s.size : Nat) : Int)) := of_decide_eq_false hc22
    have hke : k = s.size := by omega
    refine c_exit 0 (by kernel_rfl) ?_
    refine then_e (then_e (inB_hit ?_))
    refine then_n ?_
    refine c_seq (by kernel_rfl) ?_
    refine reg_plain [(0, false), (1, false)] (by kernel_rfl) (by kernel_rfl) ?_
    refine eE 0 37 (.move (.tmp 3)) 125 v h21 fun q132 h133 => ?_
    clear h21
    refine eE 1 2 (.assign (.tmp 37)) 125 v h133 fun q134 h135 => ?_
    clear h133
    refine wpO_end ?_
    have h136 := h135.keep [(2, v)] ⟨rfl, trivial⟩
    clear h135
    refine then_n ?_
    refine c_ret (by kernel_rfl) ?_
    refine ret1 (t := 2) (v := v) h136 (by kernel_rfl) (by kernel_rfl) ?_
    exact ⟨v, rfl, by have := hx13; rwa [List.take_of_length_le (by have e : s.data.toList.length = s.size := Array.length_toList; omega)] at this, hB10.bel⟩

set_option maxHeartbeats 4000000 in
set_option maxRecDepth 20000 in
theorem c72 (s : ByteArray) (w : World) (hn : s.size ≤ 1000) (hC : ∀ c ∈ s.data.toList, okC c = true) : Calls Tryd.prog 72 #[.string s] w (fun e w' => e = .returned (.int .i64 ((luhnD s.data.toList : Nat) : Int)) ∧ Below w.heap.size w w') := by
  have hxl := digs_len2 s.data.toList
  rw [show s.data.toList.length = s.size from Array.length_toList] at hxl
  refine enter Tryd.func72 (by kernel_rfl) ?_ (by kernel_rfl)
  intro q0 h0
  replace h0 := h0.conv (l' := [(0, .string s)]) rfl
  have hB := Bx.refl w
  refine c_seq (by kernel_rfl) ?_
  refine reg_plain [(0, false)] (by kernel_rfl) (by kernel_rfl) ?_
  refine eE 0 2 (.assign (.const (.int .i64 0))) 3 (.int .i64 0) h0 fun q1 h2 => ?_
  clear h0
  refine wpO_end ?_
  refine then_n ?_
  refine c_seq (by kernel_rfl) ?_
  refine reg_plain [(0, false), (1, false), (2, false)] (by kernel_rfl) (by kernel_rfl) ?_
  refine eE 0 7 (.move (.tmp 0)) 9 (.string s) h2 fun q3 h4 => ?_
  clear h2
  refine stC (i := 1) (d := 8) (op := Op.call { callee := Callee.value (Operand.func 94), args := #[Operand.tmp 7], argTypes := #[9] }) (ty := 125) (g := none) (f := 94) (args := #[.string s]) (w1 := w) h4 (by kernel_rfl) (by kernel_rfl) (by kernel_rfl) gok_none (by kernel_rfl) (c94 s w hn hC) ?_
  rintro _ w7 ⟨v10, rfl, ho11, hb8⟩
  obtain ⟨A, c, rfl, -, hrd⟩ := own_rd ho11
  have hB9 := hB.call hb8
  refine ⟨_, rfl, trivial, fun q5 h6 => ?_⟩
  clear h4 hB hb8
  refine eE 2 3 (.assign (.tmp 8)) 125 (.slice A ((digs s.data.toList).length) c) h6 fun q12 h13 => ?_
  clear h6
  have hbl14 := hB9.bel
  have hB15 := Bx.refl w7
  clear hB9
  refine wpO_end ?_
  have h16 := h13.keep [(3, .slice A ((digs s.data.toList).length) c), (2, .int .i64 0)] ⟨rfl, rfl, trivial⟩
  clear h13
  refine then_n ?_
  refine c_seq (by kernel_rfl) ?_
  refine reg_plain [(0, false)] (by kernel_rfl) (by kernel_rfl) ?_
  refine eE 0 4 (.assign (.const (.int .i64 0))) 3 (.int .i64 0) h16 fun q17 h18 => ?_
  clear h16
  refine wpO_end ?_
  refine then_n ?_
  refine c_seq (by kernel_rfl) ?_
  refine c_seq (by kernel_rfl) ?_
  refine reg_plain [(0, false)] (by kernel_rfl) (by kernel_rfl) ?_
  refine eE 0 5 (.assign (.const (.int .i64 0))) 3 (.int .i64 0) h18 fun q19 h20 => ?_
  clear h18
  refine wpO_end ?_
  refine then_n ?_
  refine c_block 0 (by kernel_rfl) ?_
  refine c_loop (by kernel_rfl) (fun qa qw => ∃ k : Nat, (k ≤ (digs s.data.toList).length) ∧ Fr 39 [(3, .slice A ((digs s.data.toList).length) c), (5, .int .i64 ((k : Nat) : Int)), (4, .int .i64 ((lSum (digs s.data.toList) k : Nat) : Int))] qa ∧ Bx w7 [] qw) (fun qa _ => ((((digs s.data.toList).length : Int)) - intAt qa 5).toNat) ⟨0, Nat.zero_le _, h20.keep _ ⟨rfl, rfl, rfl, trivial⟩, hB15⟩ ?_
  rintro q21 w22 ⟨k, hk25, h23, hB24⟩
  have hm26 := h23.int (k := 5) (kd := .i64) (z := ((k : Nat) : Int)) rfl
  clear h20 hB15
  have hS := lSum_le (digs s.data.toList) (digs_lt _ hC) k
  refine c_seq (by kernel_rfl) ?_
  refine c_seq (by kernel_rfl) ?_
  refine reg_plain [(0, false), (1, false), (2, false), (3, false)] (by kernel_rfl) (by kernel_rfl) ?_
  refine eE 0 9 (.move (.tmp 5)) 3 (.int .i64 ((k : Nat) : Int)) h23 fun q27 h28 => ?_
  clear h23
  refine eE 1 10 (.move (.tmp 3)) 125 (.slice A ((digs s.data.toList).length) c) h28 fun q29 h30 => ?_
  clear h28
  refine eE 2 11 (.call { callee := .builtin .len, args := #[.tmp 10], argTypes := #[125] }) 3 (.int .i64 (((digs s.data.toList).length : Nat) : Int)) h30 fun q31 h32 => ?_
  clear h30
  refine eE 3 12 (.binOp .lss 3 (.tmp 9) (.tmp 11) 3) 4 (.bool (decide (((k : Nat) : Int) < (((digs s.data.toList).length : Nat) : Int)))) h32 fun q33 h34 => ?_
  clear h32
  refine wpO_end ?_
  refine then_n ?_
  refine c_cond (t := 12) (b := decide (((k : Nat) : Int) < (((digs s.data.toList).length : Nat) : Int))) h34 (by kernel_rfl) (by kernel_rfl) (fun hc35 => ?_) (fun hc35 => ?_)
  ·
    have hp36 : (((k : Nat) : Int) < (((digs s.data.toList).length : Nat) : Int)) := of_decide_eq_true hc35
    have hlt : k < (digs s.data.toList).length := by omega
    have hd := digs_lt s.data.toList hC ((digs s.data.toList).length - 1 - k)
    obtain ⟨ad, hA, hE0⟩ := hrd.el (((digs s.data.toList).length - 1 - k) * 1) [.int .i64 (((digs s.data.toList).getD ((digs s.data.toList).length - 1 - k) 0 : Nat) : Int)] (by simp) (intV_get _ ((digs s.data.toList).length - 1 - k) (by omega))
    subst hA
    refine c_skip (by kernel_rfl) ?_
    refine then_n ?_
    refine c_seq (by kernel_rfl) ?_
    refine c_block 1 (by kernel_rfl) ?_
    refine c_seq (by kernel_rfl) ?_
    refine reg_plain [(0, false), (1, false), (2, false), (3, false), (4, false), (5, false), (6, false), (7, false), (8, false)] (by kernel_rfl) (by kernel_rfl) ?_
    refine eE 0 15 (.move (.tmp 3)) 125 (.slice (some ad) ((digs s.data.toList).length) c) h34 fun q37 h38 => ?_
    clear h34
    refine eE 1 16 (.move (.tmp 3)) 125 (.slice (some ad) ((digs s.data.toList).length) c) h38 fun q39 h40 => ?_
    clear h38
    refine eE 2 17 (.call { callee := .builtin .len, args := #[.tmp 16], argTypes := #[125] }) 3 (.int .i64 (((digs s.data.toList).length : Nat) : Int)) h40 fun q41 h42 => ?_
    clear h40
    refine eE 3 18 (.binOp .sub 3 (.tmp 17) (.const (.int .i64 1)) 3) 3 (.int .i64 (IntKind.i64.wrap ((((digs s.data.toList).length : Nat) : Int) - 1))) h42 fun q43 h44 => ?_
    clear h42
    refine eE 4 19 (.move (.tmp 5)) 3 (.int .i64 ((k : Nat) : Int)) h44 fun q45 h46 => ?_
    clear h44
    refine eE 5 20 (.binOp .sub 3 (.tmp 18) (.tmp 19) 3) 3 (.int .i64 (IntKind.i64.wrap ((IntKind.i64.wrap ((((digs s.data.toList).length : Nat) : Int) - 1)) - ((k : Nat) : Int)))) h46 fun q47 h48 => ?_
    clear h46
    have h49 := h48.keep [(20, .int .i64 ((((digs s.data.toList).length - 1 - k) : Nat) : Int)), (19, .int .i64 ((k : Nat) : Int)), (18, .int .i64 (IntKind.i64.wrap ((((digs s.data.toList).length : Nat) : Int) - 1))), (17, .int .i64 (((digs s.data.toList).length : Nat) : Int)), (16, .slice (some ad) ((digs s.data.toList).length) c), (15, .slice (some ad) ((digs s.data.toList).length) c), (12, .bool (decide (((k : Nat) : Int) < (((digs s.data.toList).length : Nat) : Int)))), (11, .int .i64 (((digs s.data.toList).length : Nat) : Int)), (10, .slice (some ad) ((digs s.data.toList).length) c), (9, .int .i64 ((k : Nat) : Int)), (3, .slice (some ad) ((digs s.data.toList).length) c), (5, .int .i64 ((k : Nat) : Int)), (4, .int .i64 ((lSum (digs s.data.toList) k : Nat) : Int))] ⟨look_int rfl (by rw [wrap_i64 (z := (((digs s.data.toList).length : Nat) : Int) - 1) (by omega) (by omega), wrap_i64 (by omega) (by omega)]; omega), rfl, rfl, rfl, rfl, rfl, rfl, rfl, rfl, rfl, rfl, rfl, rfl, trivial⟩
    clear h48
    refine eE 6 21 (.indexAddr 125 (.tmp 15) (.tmp 20)) 0 (.pointer (some ((ad.add (((digs s.data.toList).length - 1 - k) * 1)).add 0))) h49 (hr := r_index0 (n := (digs s.data.toList).length) (c := c) (kd := .i64) (by kernel_rfl) (by kernel_rfl) (by omega) (by kernel_rfl)) fun q50 h51 => ?_
    clear h49
    refine eE 7 22 (.load 3 (.tmp 21)) 3 (.int .i64 (((digs s.data.toList).getD ((digs s.data.toList).length - 1 - k) 0 : Nat) : Int)) h51 (hr := r_loadF (o := 0) (v := .int .i64 (((digs s.data.toList).getD ((digs s.data.toList).length - 1 - k) 0 : Nat) : Int)) (hE0.below hB24.bel) (by kernel_rfl) (by kernel_rfl) (by kernel_rfl)) fun q52 h53 => ?_
    clear h51
    refine eE 8 6 (.assign (.tmp 22)) 3 (.int .i64 (((digs s.data.toList).getD ((digs s.data.toList).length - 1 - k) 0 : Nat) : Int)) h53 fun q54 h55 => ?_
    clear h53
    refine wpO_end ?_
    refine then_n ?_
    refine c_seq (by kernel_rfl) ?_
    refine c_seq (by kernel_rfl) ?_
    refine reg_plain [(0, false), (1, false), (2, false)] (by kernel_rfl) (by kernel_rfl) ?_
    refine eE 0 23 (.move (.tmp 5)) 3 (.int .i64 ((k : Nat) : Int)) h55 fun q56 h57 => ?_
    clear h55
    refine eE 1 24 (.binOp .rem 3 (.tmp 23) (.const (.int .i64 2)) 3) 3 (.int .i64 (Int.tmod ((k : Nat) : Int) (2 : Int))) h57 fun q58 h59 => ?_
    clear h57
    refine eE 2 25 (.binOp .eql 3 (.tmp 24) (.const (.int .i64 0)) 3) 4 (.bool (Int.tmod ((k : Nat) : Int) (2 : Int) == (0 : Int))) h59 fun q60 h61 => ?_
    clear h59
    refine wpO_end ?_
    refine then_n ?_
    refine c_cond (t := 25) (b := (Int.tmod ((k : Nat) : Int) (2 : Int) == (0 : Int))) h61 (by kernel_rfl) (by kernel_rfl) (fun hc62 => ?_) (fun hc62 => ?_)
    ·
      have hpar := hc62
      rw [par_eq] at hpar
      refine reg_plain [(0, false), (1, false), (2, false)] (by kernel_rfl) (by kernel_rfl) ?_
      refine eE 0 26 (.move (.tmp 6)) 3 (.int .i64 (((digs s.data.toList).getD ((digs s.data.toList).length - 1 - k) 0 : Nat) : Int)) h61 fun q63 h64 => ?_
      clear h61
      refine eE 1 27 (.binOp .mul 3 (.const (.int .i64 2)) (.tmp 26) 3) 3 (.int .i64 (IntKind.i64.wrap (2 * (((digs s.data.toList).getD ((digs s.data.toList).length - 1 - k) 0 : Nat) : Int)))) h64 fun q65 h66 => ?_
      clear h64
      refine eE 2 6 (.assign (.tmp 27)) 3 (.int .i64 (IntKind.i64.wrap (2 * (((digs s.data.toList).getD ((digs s.data.toList).length - 1 - k) 0 : Nat) : Int)))) h66 fun q67 h68 => ?_
      clear h66
      refine wpO_end ?_
      have h69 := h68.keep [(6, .int .i64 (IntKind.i64.wrap (2 * (((digs s.data.toList).getD ((digs s.data.toList).length - 1 - k) 0 : Nat) : Int)))), (27, .int .i64 (IntKind.i64.wrap (2 * (((digs s.data.toList).getD ((digs s.data.toList).length - 1 - k) 0 : Nat) : Int)))), (26, .int .i64 (((digs s.data.toList).getD ((digs s.data.toList).length - 1 - k) 0 : Nat) : Int)), (25, .bool (Int.tmod ((k : Nat) : Int) (2 : Int) == (0 : Int))), (24, .int .i64 (Int.tmod ((k : Nat) : Int) (2 : Int))), (23, .int .i64 ((k : Nat) : Int)), (22, .int .i64 (((digs s.data.toList).getD ((digs s.data.toList).length - 1 - k) 0 : Nat) : Int)), (21, .pointer (some ((ad.add (((digs s.data.toList).length - 1 - k) * 1)).add 0))), (20, .int .i64 ((((digs s.data.toList).length - 1 - k) : Nat) : Int)), (19, .int .i64 ((k : Nat) : Int)), (18, .int .i64 (IntKind.i64.wrap ((((digs s.data.toList).length : Nat) : Int) - 1))), (17, .int .i64 (((digs s.data.toList).length : Nat) : Int)), (16, .slice (some ad) ((digs s.data.toList).length) c), (15, .slice (some ad) ((digs s.data.toList).length) c), (12, .bool (decide (((k : Nat) : Int) < (((digs s.data.toList).length : Nat) : Int)))), (11, .int .i64 (((digs s.data.toList).length : Nat) : Int)), (10, .slice (some ad) ((digs s.data.toList).length) c), (9, .int .i64 ((k : Nat) : Int)), (3, .slice (some ad) ((digs s.data.toList).length) c), (5, .int .i64 ((k : Nat) : Int)), (4, .int .i64 ((lSum (digs s.data.toList) k : Nat) : Int))] ⟨rfl, rfl, rfl, rfl, rfl, rfl, rfl, rfl, rfl, rfl, rfl, rfl, rfl, rfl, rfl, rfl, rfl, rfl, rfl, rfl, rfl, trivial⟩
      clear h68
      refine then_n ?_
      refine reg_plain [(0, false), (1, false), (2, false), (3, false), (4, false), (5, false), (6, false), (7, false)] (by kernel_rfl) (by kernel_rfl) ?_
      refine eE 0 28 (.move (.tmp 4)) 3 (.int .i64 ((lSum (digs s.data.toList) k : Nat) : Int)) h69 fun q70 h71 => ?_
      clear h69
      refine eE 1 29 (.move (.tmp 6)) 3 (.int .i64 (IntKind.i64.wrap (2 * (((digs s.data.toList).getD ((digs s.data.toList).length - 1 - k) 0 : Nat) : Int)))) h71 fun q72 h73 => ?_
      clear h71
      refine eE 2 30 (.binOp .quo 3 (.tmp 29) (.const (.int .i64 10)) 3) 3 (.int .i64 (IntKind.i64.wrap (Int.tdiv (IntKind.i64.wrap (2 * (((digs s.data.toList).getD ((digs s.data.toList).length - 1 - k) 0 : Nat) : Int))) (10 : Int)))) h73 fun q74 h75 => ?_
      clear h73
      refine eE 3 31 (.binOp .add 3 (.tmp 28) (.tmp 30) 3) 3 (.int .i64 (IntKind.i64.wrap (((lSum (digs s.data.toList) k : Nat) : Int) + (IntKind.i64.wrap (Int.tdiv (IntKind.i64.wrap (2 * (((digs s.data.toList).getD ((digs s.data.toList).length - 1 - k) 0 : Nat) : Int))) (10 : Int)))))) h75 fun q76 h77 => ?_
      clear h75
      refine eE 4 32 (.move (.tmp 6)) 3 (.int .i64 (IntKind.i64.wrap (2 * (((digs s.data.toList).getD ((digs s.data.toList).length - 1 - k) 0 : Nat) : Int)))) h77 fun q78 h79 => ?_
      clear h77
      refine eE 5 33 (.binOp .rem 3 (.tmp 32) (.const (.int .i64 10)) 3) 3 (.int .i64 (Int.tmod (IntKind.i64.wrap (2 * (((digs s.data.toList).getD ((digs s.data.toList).length - 1 - k) 0 : Nat) : Int))) (10 : Int))) h79 fun q80 h81 => ?_
      clear h79
      refine eE 6 34 (.binOp .add 3 (.tmp 31) (.tmp 33) 3) 3 (.int .i64 (IntKind.i64.wrap ((IntKind.i64.wrap (((lSum (digs s.data.toList) k : Nat) : Int) + (IntKind.i64.wrap (Int.tdiv (IntKind.i64.wrap (2 * (((digs s.data.toList).getD ((digs s.data.toList).length - 1 - k) 0 : Nat) : Int))) (10 : Int))))) + (Int.tmod (IntKind.i64.wrap (2 * (((digs s.data.toList).getD ((digs s.data.toList).length - 1 - k) 0 : Nat) : Int))) (10 : Int))))) h81 fun q82 h83 => ?_
      clear h81
      refine eE 7 4 (.assign (.tmp 34)) 3 (.int .i64 (IntKind.i64.wrap ((IntKind.i64.wrap (((lSum (digs s.data.toList) k : Nat) : Int) + (IntKind.i64.wrap (Int.tdiv (IntKind.i64.wrap (2 * (((digs s.data.toList).getD ((digs s.data.toList).length - 1 - k) 0 : Nat) : Int))) (10 : Int))))) + (Int.tmod (IntKind.i64.wrap (2 * (((digs s.data.toList).getD ((digs s.data.toList).length - 1 - k) 0 : Nat) : Int))) (10 : Int))))) h83 fun q84 h85 => ?_
      clear h83
      refine wpO_end ?_
      have h86 := h85.keep [(4, .int .i64 (IntKind.i64.wrap ((IntKind.i64.wrap (((lSum (digs s.data.toList) k : Nat) : Int) + (IntKind.i64.wrap (Int.tdiv (IntKind.i64.wrap (2 * (((digs s.data.toList).getD ((digs s.data.toList).length - 1 - k) 0 : Nat) : Int))) (10 : Int))))) + (Int.tmod (IntKind.i64.wrap (2 * (((digs s.data.toList).getD ((digs s.data.toList).length - 1 - k) 0 : Nat) : Int))) (10 : Int))))), (34, .int .i64 (IntKind.i64.wrap ((IntKind.i64.wrap (((lSum (digs s.data.toList) k : Nat) : Int) + (IntKind.i64.wrap (Int.tdiv (IntKind.i64.wrap (2 * (((digs s.data.toList).getD ((digs s.data.toList).length - 1 - k) 0 : Nat) : Int))) (10 : Int))))) + (Int.tmod (IntKind.i64.wrap (2 * (((digs s.data.toList).getD ((digs s.data.toList).length - 1 - k) 0 : Nat) : Int))) (10 : Int))))), (33, .int .i64 (Int.tmod (IntKind.i64.wrap (2 * (((digs s.data.toList).getD ((digs s.data.toList).length - 1 - k) 0 : Nat) : Int))) (10 : Int))), (32, .int .i64 (IntKind.i64.wrap (2 * (((digs s.data.toList).getD ((digs s.data.toList).length - 1 - k) 0 : Nat) : Int)))), (31, .int .i64 (IntKind.i64.wrap (((lSum (digs s.data.toList) k : Nat) : Int) + (IntKind.i64.wrap (Int.tdiv (IntKind.i64.wrap (2 * (((digs s.data.toList).getD ((digs s.data.toList).length - 1 - k) 0 : Nat) : Int))) (10 : Int)))))), (30, .int .i64 (IntKind.i64.wrap (Int.tdiv (IntKind.i64.wrap (2 * (((digs s.data.toList).getD ((digs s.data.toList).length - 1 - k) 0 : Nat) : Int))) (10 : Int)))), (29, .int .i64 (IntKind.i64.wrap (2 * (((digs s.data.toList).getD ((digs s.data.toList).length - 1 - k) 0 : Nat) : Int)))), (28, .int .i64 ((lSum (digs s.data.toList) k : Nat) : Int)), (6, .int .i64 (IntKind.i64.wrap (2 * (((digs s.data.toList).getD ((digs s.data.toList).length - 1 - k) 0 : Nat) : Int)))), (27, .int .i64 (IntKind.i64.wrap (2 * (((digs s.data.toList).getD ((digs s.data.toList).length - 1 - k) 0 : Nat) : Int)))), (26, .int .i64 (((digs s.data.toList).getD ((digs s.data.toList).length - 1 - k) 0 : Nat) : Int)), (25, .bool (Int.tmod ((k : Nat) : Int) (2 : Int) == (0 : Int))), (24, .int .i64 (Int.tmod ((k : Nat) : Int) (2 : Int))), (23, .int .i64 ((k : Nat) : Int)), (22, .int .i64 (((digs s.data.toList).getD ((digs s.data.toList).length - 1 - k) 0 : Nat) : Int)), (21, .pointer (some ((ad.add (((digs s.data.toList).length - 1 - k) * 1)).add 0))), (20, .int .i64 ((((digs s.data.toList).length - 1 - k) : Nat) : Int)), (19, .int .i64 ((k : Nat) : Int)), (18, .int .i64 (IntKind.i64.wrap ((((digs s.data.toList).length : Nat) : Int) - 1))), (17, .int .i64 (((digs s.data.toList).length : Nat) : Int)), (16, .slice (some ad) ((digs s.data.toList).length) c), (15, .slice (some ad) ((digs s.data.toList).length) c), (12, .bool (decide (((k : Nat) : Int) < (((digs s.data.toList).length : Nat) : Int)))), (11, .int .i64 (((digs s.data.toList).length : Nat) : Int)), (10, .slice (some ad) ((digs s.data.toList).length) c), (9, .int .i64 ((k : Nat) : Int)), (3, .slice (some ad) ((digs s.data.toList).length) c), (5, .int .i64 ((k : Nat) : Int))] ⟨rfl, rfl, rfl, rfl, rfl, rfl, rfl, rfl, rfl, rfl, rfl, rfl, rfl, rfl, rfl, rfl, rfl, rfl, rfl, rfl, rfl, rfl, rfl, rfl, rfl, rfl, rfl, rfl, trivial⟩
      clear h85
      refine inB_n ?_
      refine then_n ?_
      refine reg_plain [(0, false), (1, false), (2, false)] (by kernel_rfl) (by kernel_rfl) ?_
      refine eE 0 13 (.move (.tmp 5)) 3 (.int .i64 ((k : Nat) : Int)) h86 fun q87 h88 => ?_
      clear h86
      refine eE 1 14 (.binOp .add 3 (.tmp 13) (.const (.int .i64 1)) 3) 3 (.int .i64 (IntKind.i64.wrap (((k : Nat) : Int) + 1))) h88 fun q89 h90 => ?_
      clear h88
      refine eE 2 5 (.assign (.tmp 14)) 3 (.int .i64 (IntKind.i64.wrap (((k : Nat) : Int) + 1))) h90 fun q91 h92 => ?_
      clear h90
      refine wpO_end ?_
      have h93 := h92.keep [(5, .int .i64 (IntKind.i64.wrap (((k : Nat) : Int) + 1))), (14, .int .i64 (IntKind.i64.wrap (((k : Nat) : Int) + 1))), (13, .int .i64 ((k : Nat) : Int)), (4, .int .i64 (IntKind.i64.wrap ((IntKind.i64.wrap (((lSum (digs s.data.toList) k : Nat) : Int) + (IntKind.i64.wrap (Int.tdiv (IntKind.i64.wrap (2 * (((digs s.data.toList).getD ((digs s.data.toList).length - 1 - k) 0 : Nat) : Int))) (10 : Int))))) + (Int.tmod (IntKind.i64.wrap (2 * (((digs s.data.toList).getD ((digs s.data.toList).length - 1 - k) 0 : Nat) : Int))) (10 : Int))))), (34, .int .i64 (IntKind.i64.wrap ((IntKind.i64.wrap (((lSum (digs s.data.toList) k : Nat) : Int) + (IntKind.i64.wrap (Int.tdiv (IntKind.i64.wrap (2 * (((digs s.data.toList).getD ((digs s.data.toList).length - 1 - k) 0 : Nat) : Int))) (10 : Int))))) + (Int.tmod (IntKind.i64.wrap (2 * (((digs s.data.toList).getD ((digs s.data.toList).length - 1 - k) 0 : Nat) : Int))) (10 : Int))))), (33, .int .i64 (Int.tmod (IntKind.i64.wrap (2 * (((digs s.data.toList).getD ((digs s.data.toList).length - 1 - k) 0 : Nat) : Int))) (10 : Int))), (32, .int .i64 (IntKind.i64.wrap (2 * (((digs s.data.toList).getD ((digs s.data.toList).length - 1 - k) 0 : Nat) : Int)))), (31, .int .i64 (IntKind.i64.wrap (((lSum (digs s.data.toList) k : Nat) : Int) + (IntKind.i64.wrap (Int.tdiv (IntKind.i64.wrap (2 * (((digs s.data.toList).getD ((digs s.data.toList).length - 1 - k) 0 : Nat) : Int))) (10 : Int)))))), (30, .int .i64 (IntKind.i64.wrap (Int.tdiv (IntKind.i64.wrap (2 * (((digs s.data.toList).getD ((digs s.data.toList).length - 1 - k) 0 : Nat) : Int))) (10 : Int)))), (29, .int .i64 (IntKind.i64.wrap (2 * (((digs s.data.toList).getD ((digs s.data.toList).length - 1 - k) 0 : Nat) : Int)))), (28, .int .i64 ((lSum (digs s.data.toList) k : Nat) : Int)), (6, .int .i64 (IntKind.i64.wrap (2 * (((digs s.data.toList).getD ((digs s.data.toList).length - 1 - k) 0 : Nat) : Int)))), (27, .int .i64 (IntKind.i64.wrap (2 * (((digs s.data.toList).getD ((digs s.data.toList).length - 1 - k) 0 : Nat) : Int)))), (26, .int .i64 (((digs s.data.toList).getD ((digs s.data.toList).length - 1 - k) 0 : Nat) : Int)), (25, .bool (Int.tmod ((k : Nat) : Int) (2 : Int) == (0 : Int))), (24, .int .i64 (Int.tmod ((k : Nat) : Int) (2 : Int))), (23, .int .i64 ((k : Nat) : Int)), (22, .int .i64 (((digs s.data.toList).getD ((digs s.data.toList).length - 1 - k) 0 : Nat) : Int)), (21, .pointer (some ((ad.add (((digs s.data.toList).length - 1 - k) * 1)).add 0))), (20, .int .i64 ((((digs s.data.toList).length - 1 - k) : Nat) : Int)), (19, .int .i64 ((k : Nat) : Int)), (18, .int .i64 (IntKind.i64.wrap ((((digs s.data.toList).length : Nat) : Int) - 1))), (17, .int .i64 (((digs s.data.toList).length : Nat) : Int)), (16, .slice (some ad) ((digs s.data.toList).length) c), (15, .slice (some ad) ((digs s.data.toList).length) c), (12, .bool (decide (((k : Nat) : Int) < (((digs s.data.toList).length : Nat) : Int)))), (11, .int .i64 (((digs s.data.toList).length : Nat) : Int)), (10, .slice (some ad) ((digs s.data.toList).length) c), (9, .int .i64 ((k : Nat) : Int)), (3, .slice (some ad) ((digs s.data.toList).length) c)] ⟨rfl, rfl, rfl, rfl, rfl, rfl, rfl, rfl, rfl, rfl, rfl, rfl, rfl, rfl, rfl, rfl, rfl, rfl, rfl, rfl, rfl, rfl, rfl, rfl, rfl, rfl, rfl, rfl, rfl, rfl, trivial⟩
      clear h92
      have h94 := h93.keep [(3, .slice (some ad) ((digs s.data.toList).length) c), (5, .int .i64 (((k + 1) : Nat) : Int)), (4, .int .i64 ((lSum (digs s.data.toList) (k + 1) : Nat) : Int))] ⟨rfl, look_int rfl (wrap_succ (by omega)), look_int rfl (l_round2 k _ _ (IntKind.i64.wrap (2 * (((digs s.data.toList).getD ((digs s.data.toList).length - 1 - k) 0 : Nat) : Int))) ⟨fun _ => (by rw [wrap_i64 (by omega) (by omega)]; omega), fun hh => absurd (by simpa using hpar) hh⟩ hd hS (by omega)), trivial⟩
      have hm95 := h94.int (k := 5) (kd := .i64) (z := (((k + 1) : Nat) : Int)) rfl
      refine then_n ⟨⟨k + 1, by omega, h94, hB24⟩, ?_⟩
      show ((((digs s.data.toList).length : Int)) - intAt _ 5).toNat < ((((digs s.data.toList).length : Int)) - intAt _ 5).toNat
      rw [hm26, hm95]; omega
    ·
      have hpar := hc62
      rw [par_eq] at hpar
      refine c_skip (by kernel_rfl) ?_
      refine then_n ?_
      refine reg_plain [(0, false), (1, false), (2, false), (3, false), (4, false), (5, false), (6, false), (7, false)] (by kernel_rfl) (by kernel_rfl) ?_
      refine eE 0 28 (.move (.tmp 4)) 3 (.int .i64 ((lSum (digs s.data.toList) k : Nat) : Int)) h61 fun q96 h97 => ?_
      clear h61
      refine eE 1 29 (.move (.tmp 6)) 3 (.int .i64 (((digs s.data.toList).getD ((digs s.data.toList).length - 1 - k) 0 : Nat) : Int)) h97 fun q98 h99 => ?_
      clear h97
      refine eE 2 30 (.binOp .quo 3 (.tmp 29) (.const (.int .i64 10)) 3) 3 (.int .i64 (IntKind.i64.wrap (Int.tdiv (((digs s.data.toList).getD ((digs s.data.toList).length - 1 - k) 0 : Nat) : Int) (10 : Int)))) h99 fun q100 h101 => ?_
      clear h99
      refine eE 3 31 (.binOp .add 3 (.tmp 28) (.tmp 30) 3) 3 (.int .i64 (IntKind.i64.wrap (((lSum (digs s.data.toList) k : Nat) : Int) + (IntKind.i64.wrap (Int.tdiv (((digs s.data.toList).getD ((digs s.data.toList).length - 1 - k) 0 : Nat) : Int) (10 : Int)))))) h101 fun q102 h103 => ?_
      clear h101
      refine eE 4 32 (.move (.tmp 6)) 3 (.int .i64 (((digs s.data.toList).getD ((digs s.data.toList).length - 1 - k) 0 : Nat) : Int)) h103 fun q104 h105 => ?_
      clear h103
      refine eE 5 33 (.binOp .rem 3 (.tmp 32) (.const (.int .i64 10)) 3) 3 (.int .i64 (Int.tmod (((digs s.data.toList).getD ((digs s.data.toList).length - 1 - k) 0 : Nat) : Int) (10 : Int))) h105 fun q106 h107 => ?_
      clear h105
      refine eE 6 34 (.binOp .add 3 (.tmp 31) (.tmp 33) 3) 3 (.int .i64 (IntKind.i64.wrap ((IntKind.i64.wrap (((lSum (digs s.data.toList) k : Nat) : Int) + (IntKind.i64.wrap (Int.tdiv (((digs s.data.toList).getD ((digs s.data.toList).length - 1 - k) 0 : Nat) : Int) (10 : Int))))) + (Int.tmod (((digs s.data.toList).getD ((digs s.data.toList).length - 1 - k) 0 : Nat) : Int) (10 : Int))))) h107 fun q108 h109 => ?_
      clear h107
      refine eE 7 4 (.assign (.tmp 34)) 3 (.int .i64 (IntKind.i64.wrap ((IntKind.i64.wrap (((lSum (digs s.data.toList) k : Nat) : Int) + (IntKind.i64.wrap (Int.tdiv (((digs s.data.toList).getD ((digs s.data.toList).length - 1 - k) 0 : Nat) : Int) (10 : Int))))) + (Int.tmod (((digs s.data.toList).getD ((digs s.data.toList).length - 1 - k) 0 : Nat) : Int) (10 : Int))))) h109 fun q110 h111 => ?_
      clear h109
      refine wpO_end ?_
      have h112 := h111.keep [(4, .int .i64 (IntKind.i64.wrap ((IntKind.i64.wrap (((lSum (digs s.data.toList) k : Nat) : Int) + (IntKind.i64.wrap (Int.tdiv (((digs s.data.toList).getD ((digs s.data.toList).length - 1 - k) 0 : Nat) : Int) (10 : Int))))) + (Int.tmod (((digs s.data.toList).getD ((digs s.data.toList).length - 1 - k) 0 : Nat) : Int) (10 : Int))))), (34, .int .i64 (IntKind.i64.wrap ((IntKind.i64.wrap (((lSum (digs s.data.toList) k : Nat) : Int) + (IntKind.i64.wrap (Int.tdiv (((digs s.data.toList).getD ((digs s.data.toList).length - 1 - k) 0 : Nat) : Int) (10 : Int))))) + (Int.tmod (((digs s.data.toList).getD ((digs s.data.toList).length - 1 - k) 0 : Nat) : Int) (10 : Int))))), (33, .int .i64 (Int.tmod (((digs s.data.toList).getD ((digs s.data.toList).length - 1 - k) 0 : Nat) : Int) (10 : Int))), (32, .int .i64 (((digs s.data.toList).getD ((digs s.data.toList).length - 1 - k) 0 : Nat) : Int)), (31, .int .i64 (IntKind.i64.wrap (((lSum (digs s.data.toList) k : Nat) : Int) + (IntKind.i64.wrap (Int.tdiv (((digs s.data.toList).getD ((digs s.data.toList).length - 1 - k) 0 : Nat) : Int) (10 : Int)))))), (30, .int .i64 (IntKind.i64.wrap (Int.tdiv (((digs s.data.toList).getD ((digs s.data.toList).length - 1 - k) 0 : Nat) : Int) (10 : Int)))), (29, .int .i64 (((digs s.data.toList).getD ((digs s.data.toList).length - 1 - k) 0 : Nat) : Int)), (28, .int .i64 ((lSum (digs s.data.toList) k : Nat) : Int)), (25, .bool (Int.tmod ((k : Nat) : Int) (2 : Int) == (0 : Int))), (24, .int .i64 (Int.tmod ((k : Nat) : Int) (2 : Int))), (23, .int .i64 ((k : Nat) : Int)), (6, .int .i64 (((digs s.data.toList).getD ((digs s.data.toList).length - 1 - k) 0 : Nat) : Int)), (22, .int .i64 (((digs s.data.toList).getD ((digs s.data.toList).length - 1 - k) 0 : Nat) : Int)), (21, .pointer (some ((ad.add (((digs s.data.toList).length - 1 - k) * 1)).add 0))), (20, .int .i64 ((((digs s.data.toList).length - 1 - k) : Nat) : Int)), (19, .int .i64 ((k : Nat) : Int)), (18, .int .i64 (IntKind.i64.wrap ((((digs s.data.toList).length : Nat) : Int) - 1))), (17, .int .i64 (((digs s.data.toList).length : Nat) : Int)), (16, .slice (some ad) ((digs s.data.toList).length) c), (15, .slice (some ad) ((digs s.data.toList).length) c), (12, .bool (decide (((k : Nat) : Int) < (((digs s.data.toList).length : Nat) : Int)))), (11, .int .i64 (((digs s.data.toList).length : Nat) : Int)), (10, .slice (some ad) ((digs s.data.toList).length) c), (9, .int .i64 ((k : Nat) : Int)), (3, .slice (some ad) ((digs s.data.toList).length) c), (5, .int .i64 ((k : Nat) : Int))] ⟨rfl, rfl, rfl, rfl, rfl, rfl, rfl, rfl, rfl, rfl, rfl, rfl, rfl, rfl, rfl, rfl, rfl, rfl, rfl, rfl, rfl, rfl, rfl, rfl, rfl, rfl, trivial⟩
      clear h111
      refine inB_n ?_
      refine then_n ?_
      refine reg_plain [(0, false), (1, false), (2, false)] (by kernel_rfl) (by kernel_rfl) ?_
      refine eE 0 13 (.move (.tmp 5)) 3 (.int .i64 ((k : Nat) : Int)) h112 fun q113 h114 => ?_
      clear h112
      refine eE 1 14 (.binOp .add 3 (.tmp 13) (.const (.int .i64 1)) 3) 3 (.int .i64 (IntKind.i64.wrap (((k : Nat) : Int) + 1))) h114 fun q115 h116 => ?_
      clear h114
      refine eE 2 5 (.assign (.tmp 14)) 3 (.int .i64 (IntKind.i64.wrap (((k : Nat) : Int) + 1))) h116 fun q117 h118 => ?_
      clear h116
      refine wpO_end ?_
      have h119 := h118.keep [(5, .int .i64 (IntKind.i64.wrap (((k : Nat) : Int) + 1))), (14, .int .i64 (IntKind.i64.wrap (((k : Nat) : Int) + 1))), (13, .int .i64 ((k : Nat) : Int)), (4, .int .i64 (IntKind.i64.wrap ((IntKind.i64.wrap (((lSum (digs s.data.toList) k : Nat) : Int) + (IntKind.i64.wrap (Int.tdiv (((digs s.data.toList).getD ((digs s.data.toList).length - 1 - k) 0 : Nat) : Int) (10 : Int))))) + (Int.tmod (((digs s.data.toList).getD ((digs s.data.toList).length - 1 - k) 0 : Nat) : Int) (10 : Int))))), (34, .int .i64 (IntKind.i64.wrap ((IntKind.i64.wrap (((lSum (digs s.data.toList) k : Nat) : Int) + (IntKind.i64.wrap (Int.tdiv (((digs s.data.toList).getD ((digs s.data.toList).length - 1 - k) 0 : Nat) : Int) (10 : Int))))) + (Int.tmod (((digs s.data.toList).getD ((digs s.data.toList).length - 1 - k) 0 : Nat) : Int) (10 : Int))))), (33, .int .i64 (Int.tmod (((digs s.data.toList).getD ((digs s.data.toList).length - 1 - k) 0 : Nat) : Int) (10 : Int))), (32, .int .i64 (((digs s.data.toList).getD ((digs s.data.toList).length - 1 - k) 0 : Nat) : Int)), (31, .int .i64 (IntKind.i64.wrap (((lSum (digs s.data.toList) k : Nat) : Int) + (IntKind.i64.wrap (Int.tdiv (((digs s.data.toList).getD ((digs s.data.toList).length - 1 - k) 0 : Nat) : Int) (10 : Int)))))), (30, .int .i64 (IntKind.i64.wrap (Int.tdiv (((digs s.data.toList).getD ((digs s.data.toList).length - 1 - k) 0 : Nat) : Int) (10 : Int)))), (29, .int .i64 (((digs s.data.toList).getD ((digs s.data.toList).length - 1 - k) 0 : Nat) : Int)), (28, .int .i64 ((lSum (digs s.data.toList) k : Nat) : Int)), (25, .bool (Int.tmod ((k : Nat) : Int) (2 : Int) == (0 : Int))), (24, .int .i64 (Int.tmod ((k : Nat) : Int) (2 : Int))), (23, .int .i64 ((k : Nat) : Int)), (6, .int .i64 (((digs s.data.toList).getD ((digs s.data.toList).length - 1 - k) 0 : Nat) : Int)), (22, .int .i64 (((digs s.data.toList).getD ((digs s.data.toList).length - 1 - k) 0 : Nat) : Int)), (21, .pointer (some ((ad.add (((digs s.data.toList).length - 1 - k) * 1)).add 0))), (20, .int .i64 ((((digs s.data.toList).length - 1 - k) : Nat) : Int)), (19, .int .i64 ((k : Nat) : Int)), (18, .int .i64 (IntKind.i64.wrap ((((digs s.data.toList).length : Nat) : Int) - 1))), (17, .int .i64 (((digs s.data.toList).length : Nat) : Int)), (16, .slice (some ad) ((digs s.data.toList).length) c), (15, .slice (some ad) ((digs s.data.toList).length) c), (12, .bool (decide (((k : Nat) : Int) < (((digs s.data.toList).length : Nat) : Int)))), (11, .int .i64 (((digs s.data.toList).length : Nat) : Int)), (10, .slice (some ad) ((digs s.data.toList).length) c), (9, .int .i64 ((k : Nat) : Int)), (3, .slice (some ad) ((digs s.data.toList).length) c)] ⟨rfl, rfl, rfl, rfl, rfl, rfl, rfl, rfl, rfl, rfl, rfl, rfl, rfl, rfl, rfl, rfl, rfl, rfl, rfl, rfl, rfl, rfl, rfl, rfl, rfl, rfl, rfl, rfl, trivial⟩
      clear h118
      have h120 := h119.keep [(3, .slice (some ad) ((digs s.data.toList).length) c), (5, .int .i64 (((k + 1) : Nat) : Int)), (4, .int .i64 ((lSum (digs s.data.toList) (k + 1) : Nat) : Int))] ⟨rfl, look_int rfl (wrap_succ (by omega)), look_int rfl (l_round2 k _ _ ((((digs s.data.toList).getD ((digs s.data.toList).length - 1 - k) 0 : Nat) : Int)) ⟨fun hh => (by rw [hh] at hpar; cases hpar), fun _ => rfl⟩ hd hS (by omega)), trivial⟩
      have hm121 := h120.int (k := 5) (kd := .i64) (z := (((k + 1) : Nat) : Int)) rfl
      refine then_n ⟨⟨k + 1, by omega, h120, hB24⟩, ?_⟩
      show ((((digs s.data.toList).length : Int)) - intAt _ 5).toNat < ((((digs s.data.toList).length : Int)) - intAt _ 5).toNat
      rw [hm26, hm121]; omega
  ·
    have hp122 : ¬ (((k : Nat) : Int) < (((digs s.data.toList).length : Nat) : Int)) := of_decide_eq_false hc35
    obtain rfl : k = (digs s.data.toList).length := by omega
    refine c_exit 0 (by kernel_rfl) ?_
    refine then_e (then_e (inB_hit ?_))
    refine then_n ?_
    refine c_seq (by kernel_rfl) ?_
    refine reg_plain [(0, false), (1, false), (2, false), (3, false), (4, false)] (by kernel_rfl) (by kernel_rfl) ?_
    refine eE 0 35 (.move (.tmp 4)) 3 (.int .i64 ((lSum (digs s.data.toList) (digs s.data.toList).length : Nat) : Int)) h34 fun q123 h124 => ?_
    clear h34
    refine eE 1 36 (.binOp .rem 3 (.tmp 35) (.const (.int .i64 10)) 3) 3 (.int .i64 (Int.tmod ((lSum (digs s.data.toList) (digs s.data.toList).length : Nat) : Int) (10 : Int))) h124 fun q125 h126 => ?_
    clear h124
    refine eE 2 37 (.binOp .sub 3 (.const (.int .i64 10)) (.tmp 36) 3) 3 (.int .i64 (IntKind.i64.wrap (10 - (Int.tmod ((lSum (digs s.data.toList) (digs s.data.toList).length : Nat) : Int) (10 : Int))))) h126 fun q127 h128 => ?_
    clear h126
    refine eE 3 38 (.binOp .rem 3 (.tmp 37) (.const (.int .i64 10)) 3) 3 (.int .i64 (Int.tmod (IntKind.i64.wrap (10 - (Int.tmod ((lSum (digs s.data.toList) (digs s.data.toList).length : Nat) : Int) (10 : Int)))) (10 : Int))) h128 fun q129 h130 => ?_
    clear h128
    have h131 := h130.keep [(38, .int .i64 ((luhnD s.data.toList : Nat) : Int)), (37, .int .i64 (IntKind.i64.wrap (10 - (Int.tmod ((lSum (digs s.data.toList) (digs s.data.toList).length : Nat) : Int) (10 : Int))))), (36, .int .i64 (Int.tmod ((lSum (digs s.data.toList) (digs s.data.toList).length : Nat) : Int) (10 : Int))), (35, .int .i64 ((lSum (digs s.data.toList) (digs s.data.toList).length : Nat) : Int)), (12, .bool (decide ((((digs s.data.toList).length : Nat) : Int) < (((digs s.data.toList).length : Nat) : Int)))), (11, .int .i64 (((digs s.data.toList).length : Nat) : Int)), (10, .slice A ((digs s.data.toList).length) c), (9, .int .i64 (((digs s.data.toList).length : Nat) : Int)), (3, .slice A ((digs s.data.toList).length) c), (5, .int .i64 (((digs s.data.toList).length : Nat) : Int)), (4, .int .i64 ((lSum (digs s.data.toList) (digs s.data.toList).length : Nat) : Int))] ⟨look_int rfl (luhn_end _ (by have := lSum_le (digs s.data.toList) (digs_lt _ hC) (digs s.data.toList).length; omega)), rfl, rfl, rfl, rfl, rfl, rfl, rfl, rfl, rfl, rfl, trivial⟩
    clear h130
    refine eE 4 2 (.assign (.tmp 38)) 3 (.int .i64 ((luhnD s.data.toList : Nat) : Int)) h131 fun q132 h133 => ?_
    clear h131
    refine wpO_end ?_
    have h134 := h133.keep [(2, .int .i64 ((luhnD s.data.toList : Nat) : Int))] ⟨rfl, trivial⟩
    clear h133
    refine then_n ?_
    refine c_ret (by kernel_rfl) ?_
    refine ret1 (t := 2) (v := .int .i64 ((luhnD s.data.toList : Nat) : Int)) h134 (by kernel_rfl) (by kernel_rfl) ?_
    exact ⟨rfl, (hbl14.trans (hB24.bel.mono hbl14.size))⟩

end Go.Proofs.YtljegdokbifoiaaDoor.Af
