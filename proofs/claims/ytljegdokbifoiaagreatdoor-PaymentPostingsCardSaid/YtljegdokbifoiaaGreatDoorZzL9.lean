/- The law of Postings. No condition but the argument's own. -/
import Derived.Test.YtljegdokbifoiaaGreatDoorZzKp
namespace Go.Proofs.YtljegdokbifoiaaGreatDoor.Af
open Go.RowKit
set_option maxHeartbeats 4000000 in
set_option maxRecDepth 20000 in
theorem law9 (i : Ins) (A : Option Addr) (c : Nat) (w : World) (hr : Rd w A (lkc i.links)) : Calls Tryz.prog 9 #[insV i A c] w fun e w' => e = .returned (.bool true) ∧ Below w.heap.size w w' := by
  refine enter Tryz.func9 (by kernel_rfl) ?_ (by kernel_rfl)
  intro q0 h0
  replace h0 := h0.conv (l' := [(0, insV i A c)]) rfl
  have hB := Bx.refl w
  refine kS ?_
  refine rp 2 ?_
  refine sA 0 1 (fun b => .pointer (some ⟨b, 0, none⟩)) (.cells (insV i A c).cells 50 (0, 0)) h0 gok_none hB (fun _ _ hq => trivial) (fun b3 w4 hB5 hN q1 h2 => ?_)
  clear h0 hB hN
  refine b0 (.C 1 2 <| .nil) [(2, .bool false), (1, .pointer (some ⟨b3, 0, none⟩))] h2 (Kw.nil hB5) fun q6 h7 => ?_
  clear h2
  refine wpO_end ?_
  refine then_n ?_
  refine kS ?_
  refine kS ?_
  refine rp 4 ?_
  refine b0 (.C 0 9 <| .L 1 10 0 15 <| .E 2 11 (.int .i64 ((i.links.length : Nat) : Int)) <| .E 3 12 (.bool (decide ((20 : Int) < ((i.links.length : Nat) : Int)))) <| .nil) [(12, .bool (decide ((20 : Int) < ((i.links.length : Nat) : Int)))), (2, .bool false), (1, .pointer (some ⟨b3, 0, none⟩))] h7 (Kw.nil hB5) fun q8 h9 => ?_
  clear h7
  refine wpO_end ?_
  refine then_n ?_
  refine kC 12 (decide ((20 : Int) < ((i.links.length : Nat) : Int))) h9 (fun hc10 => ?_) (fun hc10 => ?_)
  ·
    have hp11 : ((20 : Int) < ((i.links.length : Nat) : Int)) := of_decide_eq_true hc10
    refine kS ?_
    refine rp 2 ?_
    refine sC 0 13 h9 gok_none (known w4) ?_
    rintro _ w14 ⟨rfl, hb15⟩
    have hB16 := hB5.call hb15
    refine ⟨_, rfl, trivial, fun q12 h13 => ?_⟩
    clear h9 hB5 hb15
    refine b0 (.C 1 2 <| .nil) [(2, .bool true), (1, .pointer (some ⟨b3, 0, none⟩))] h13 (Kw.nil hB16) fun q17 h18 => ?_
    clear h13
    refine wpO_end ?_
    refine then_n ?_
    refine c_ret (by kernel_rfl) ?_
    refine then_r ?_
    refine ret1 (t := 2) (v := .bool true) h18 (by kernel_rfl) (by kernel_rfl) ?_
    exact ⟨ret_eq (rfl), hB16.bel⟩
  have hp19 : ¬ ((20 : Int) < ((i.links.length : Nat) : Int)) := of_decide_eq_false hc10
  refine c_skip (by kernel_rfl) ?_
  refine then_n ?_
  refine kS ?_
  rcases Bool.eq_false_or_eq_true (payE i != (0 : Int)) with hc20 | hc20
  ·
    refine rp 8 ?_
    refine b0 (.S 0 15 0 0 16 <| .nil) [(15, insV i A c), (2, .bool false), (1, .pointer (some ⟨b3, 0, none⟩))] h9 (Kw.nil hB5) fun q21 h22 => ?_
    clear h9
    refine sC 1 16 h22 gok_none (c13 i A c w4 (by omega) (hr.below hB5.bel)) ?_
    rintro _ w27 ⟨A25, cp26, rfl, ho31, hb28⟩
    have ho30 := own_base ho31 hB5.bel.size
    have hB29 := hB5.call hb28
    refine ⟨_, rfl, trivial, fun q23 h24 => ?_⟩
    clear h22 hB5 hb28
    refine sC 2 17 h24 gok_none (p32e i A25 cp26 w27 (show i.links.length ≤ 4611686018427387904 by omega) (own_le ho30) (own_rr ho30) hc20) ?_
    rintro _ w34 ⟨rfl, hb35⟩
    have hB36 := hB29.call hb35
    have ho37 := own_below ho30 hb35
    refine ⟨_, rfl, trivial, fun q32 h33 => ?_⟩
    clear h24 hB29 hb35
    refine b0 (.C 3 14 <| .E 4 18 (.slice none 0 0) <| .E 5 19 (.int .i64 (payE i)) <| .C 6 3 <| .C 7 4 <| .nil) [(4, .int .i64 (payE i)), (3, .slice none 0 0), (2, .bool false), (1, .pointer (some ⟨b3, 0, none⟩))] h33 (Kw.nil hB36) fun q38 h39 => ?_
    clear h33
    refine wpO_end ?_
    refine then_n ?_
    refine kS ?_
    refine rp 3 ?_
    refine b0 (.S 0 20 0 0 16 <| .nil) [(20, insV i A c), (4, .int .i64 (payE i)), (3, .slice none 0 0), (2, .bool false), (1, .pointer (some ⟨b3, 0, none⟩))] h39 (Kw.nil hB36) fun q40 h41 => ?_
    clear h39
    refine sC 1 21 h41 gok_none (p33 i A c w34 (show i.links.length ≤ 4611686018427387904 by omega) (hr.below hB36.bel)) ?_
    rintro _ w44 ⟨rfl, hb45⟩
    have hB46 := hB36.call hb45
    refine ⟨_, rfl, trivial, fun q42 h43 => ?_⟩
    clear h41 hB36 hb45
    refine b0 (.C 2 5 <| .nil) [(5, .int .i64 (payR i)), (4, .int .i64 (payE i)), (3, .slice none 0 0), (2, .bool false), (1, .pointer (some ⟨b3, 0, none⟩))] h43 (Kw.nil hB46) fun q47 h48 => ?_
    clear h43
    refine wpO_end ?_
    refine then_n ?_
    refine kS ?_
    refine kS ?_
    refine rp 12 ?_
    refine b0 (.C 0 22 <| .C 1 23 <| .nil) [(23, .int .i64 (payR i)), (22, .int .i64 (payE i)), (5, .int .i64 (payR i)), (3, .slice none 0 0), (2, .bool false), (1, .pointer (some ⟨b3, 0, none⟩))] h48 (Kw.nil hB46) fun q49 h50 => ?_
    clear h48
    refine eE 2 24 (.binOp .neq 3 (.tmp 22) (.tmp 23) 3) 4 (.bool (payE i != payR i)) h50 fun q51 h52 => ?_
    clear h50
    have h53 := h52.keep [(24, .bool false), (23, .int .i64 (payR i)), (22, .int .i64 (payE i)), (5, .int .i64 (payR i)), (3, .slice none 0 0), (2, .bool false), (1, .pointer (some ⟨b3, 0, none⟩))] ⟨look_bool rfl (by rw [pay_ref]; exact bne_self_eq_false _), rfl, rfl, rfl, rfl, rfl, rfl, trivial⟩
    clear h52
    refine b1 25 (rfl : false = false) (.C 3 25 <| .C 4 26 <| .nil) [(26, .int .i64 (payR i)), (25, .bool false), (5, .int .i64 (payR i)), (3, .slice none 0 0), (2, .bool false), (1, .pointer (some ⟨b3, 0, none⟩))] h53 (Kw.nil hB46) fun q54 h55 => ?_
    clear h53
    refine eG 5 27 (.binOp .neq 3 (.tmp 26) (.const (.int .i64 0)) 3) 4 (3, false) (.bool (payR i != (0 : Int))) (g2 25 (rfl : false = false)) h55 fun q56 h57 => ?_
    clear h55
    have h58 := h57.keep [(27, .bool true), (26, .int .i64 (payR i)), (25, .bool false), (5, .int .i64 (payR i)), (3, .slice none 0 0), (2, .bool false), (1, .pointer (some ⟨b3, 0, none⟩))] ⟨look_bool rfl (by rw [← pay_ref]; exact hc20), rfl, rfl, rfl, rfl, rfl, rfl, trivial⟩
    clear h57
    refine b1 25 (rfl : false = false) (.C 6 28 <| .nil) [(28, .bool true), (25, .bool false), (5, .int .i64 (payR i)), (3, .slice none 0 0), (2, .bool false), (1, .pointer (some ⟨b3, 0, none⟩))] h58 (Kw.nil hB46) fun q59 h60 => ?_
    clear h58
    refine b1 28 (rfl : true = true) (.C 7 29 <| .E 8 30 (.int .i64 0) <| .E 9 31 (.bool false) <| .nil) [(31, .bool false), (28, .bool true), (25, .bool false), (5, .int .i64 (payR i)), (3, .slice none 0 0), (2, .bool false), (1, .pointer (some ⟨b3, 0, none⟩))] h60 (Kw.nil hB46) fun q61 h62 => ?_
    clear h60
    refine b1 25 (rfl : false = false) (.E 10 32 (.bool false) <| .E 11 33 (.bool false) <| .nil) [(33, .bool false), (5, .int .i64 (payR i)), (3, .slice none 0 0), (2, .bool false), (1, .pointer (some ⟨b3, 0, none⟩))] h62 (Kw.nil hB46) fun q63 h64 => ?_
    clear h62
    refine wpO_end ?_
    refine then_n ?_
    refine kC 33 false h64 (fun e65 => Bool.noConfusion (e65.symm.trans (rfl))) (fun _ => ?_)
    refine c_skip (by kernel_rfl) ?_
    refine then_n ?_
    refine kS ?_
    refine kS ?_
    refine rp 2 ?_
    refine b0 (.C 0 34 <| .nil) [(34, .int .i64 (payR i)), (3, .slice none 0 0), (2, .bool false), (1, .pointer (some ⟨b3, 0, none⟩))] h64 (Kw.nil hB46) fun q66 h67 => ?_
    clear h64
    refine eE 1 35 (.binOp .neq 3 (.tmp 34) (.const (.int .i64 0)) 3) 4 (.bool (payR i != (0 : Int))) h67 fun q68 h69 => ?_
    clear h67
    have h70 := h69.keep [(35, .bool true), (34, .int .i64 (payR i)), (3, .slice none 0 0), (2, .bool false), (1, .pointer (some ⟨b3, 0, none⟩))] ⟨look_bool rfl (by rw [← pay_ref]; exact hc20), rfl, rfl, rfl, rfl, trivial⟩
    clear h69
    refine wpO_end ?_
    have h71 := h70.keep [(35, .bool true), (3, .slice none 0 0), (2, .bool false), (1, .pointer (some ⟨b3, 0, none⟩))] ⟨rfl, rfl, rfl, rfl, trivial⟩
    clear h70
    refine then_n ?_
    refine kC 35 true h71 (fun _ => ?_) (fun e72 => Bool.noConfusion (e72.symm.trans (rfl)))
    refine kS ?_
    refine rp 2 ?_
    refine sC 0 36 h71 gok_none (known w44) ?_
    rintro _ w75 ⟨rfl, hb76⟩
    have hB77 := hB46.call hb76
    refine ⟨_, rfl, trivial, fun q73 h74 => ?_⟩
    clear h71 hB46 hb76
    refine b0 (.C 1 2 <| .nil) [(2, .bool true), (3, .slice none 0 0), (1, .pointer (some ⟨b3, 0, none⟩))] h74 (Kw.nil hB77) fun q78 h79 => ?_
    clear h74
    refine wpO_end ?_
    refine then_n ?_
    refine c_ret (by kernel_rfl) ?_
    refine then_r ?_
    refine ret1 (t := 2) (v := .bool true) h79 (by kernel_rfl) (by kernel_rfl) ?_
    exact ⟨ret_eq (rfl), hB77.bel⟩
  ·
    have hok := pay_ok (pay_zero' hc20)
    refine rp 8 ?_
    refine b0 (.S 0 15 0 0 16 <| .nil) [(15, insV i A c), (2, .bool false), (1, .pointer (some ⟨b3, 0, none⟩))] h9 (Kw.nil hB5) fun q80 h81 => ?_
    clear h9
    refine sC 1 16 h81 gok_none (c13 i A c w4 (by omega) (hr.below hB5.bel)) ?_
    rintro _ w86 ⟨A84, cp85, rfl, ho90, hb87⟩
    have ho89 := own_base ho90 hB5.bel.size
    have hB88 := hB5.call hb87
    refine ⟨_, rfl, trivial, fun q82 h83 => ?_⟩
    clear h81 hB5 hb87
    refine sC 2 17 h83 gok_none (p32o i A84 cp85 w86 (show i.links.length ≤ 4611686018427387904 by omega) (own_le ho89) (own_rr ho89) hc20) ?_
    rintro _ w95 ⟨ad93, rfl, he94, hb96⟩
    have hB97 := hB88.call hb96
    have ho98 := own_below ho89 hb96
    refine ⟨_, rfl, trivial, fun q91 h92 => ?_⟩
    clear h83 hB88 hb96
    have hE99 := El.of_blk (hB97.at 0 rfl)
    have hbl100 := hB97.bel
    have hB101 := Bx.refl w95
    clear hB97
    refine b0 (.C 3 14 <| .E 4 18 (.slice (some ad93) 2 2) <| .E 5 19 (.int .i64 0) <| .C 6 3 <| .C 7 4 <| .nil) [(4, .int .i64 0), (3, .slice (some ad93) 2 2), (2, .bool false), (1, .pointer (some ⟨b3, 0, none⟩))] h92 (Kw.nil hB101) fun q102 h103 => ?_
    clear h92
    refine wpO_end ?_
    refine then_n ?_
    refine kS ?_
    refine rp 3 ?_
    refine b0 (.Y 0 20 0 0 16 <| .nil) [(20, insV i A c), (4, .int .i64 0), (3, .slice (some ad93) 2 2), (2, .bool false), (1, .pointer (some ⟨b3, 0, none⟩))] h103 ((Kw.nil hB101).cons (hE99.below hB101.bel)) fun q104 h105 => ?_
    clear h103
    refine sC 1 21 h105 gok_none (p33 i A c w95 (show i.links.length ≤ 4611686018427387904 by omega) (hr.below (hbl100.trans (hB101.bel.mono hbl100.size)))) ?_
    rintro _ w108 ⟨rfl, hb109⟩
    have hB110 := hB101.call hb109
    refine ⟨_, rfl, trivial, fun q106 h107 => ?_⟩
    clear h105 hB101 hb109
    refine b0 (.C 2 5 <| .nil) [(5, .int .i64 (payR i)), (4, .int .i64 0), (3, .slice (some ad93) 2 2), (2, .bool false), (1, .pointer (some ⟨b3, 0, none⟩))] h107 (Kw.nil hB110) fun q111 h112 => ?_
    clear h107
    refine wpO_end ?_
    refine then_n ?_
    refine kS ?_
    refine kS ?_
    refine rp 12 ?_
    refine b0 (.C 0 22 <| .C 1 23 <| .nil) [(23, .int .i64 (payR i)), (22, .int .i64 0), (5, .int .i64 (payR i)), (3, .slice (some ad93) 2 2), (2, .bool false), (1, .pointer (some ⟨b3, 0, none⟩))] h112 (Kw.nil hB110) fun q113 h114 => ?_
    clear h112
    refine eE 2 24 (.binOp .neq 3 (.tmp 22) (.tmp 23) 3) 4 (.bool ((0 : Int) != payR i)) h114 fun q115 h116 => ?_
    clear h114
    have h117 := h116.keep [(24, .bool false), (23, .int .i64 (payR i)), (22, .int .i64 0), (5, .int .i64 (payR i)), (3, .slice (some ad93) 2 2), (2, .bool false), (1, .pointer (some ⟨b3, 0, none⟩))] ⟨look_bool rfl (by rw [← pay_ref, pay_zero' hc20]; rfl), rfl, rfl, rfl, rfl, rfl, rfl, trivial⟩
    clear h116
    refine b1 25 (rfl : false = false) (.C 3 25 <| .C 4 26 <| .nil) [(26, .int .i64 (payR i)), (25, .bool false), (5, .int .i64 (payR i)), (3, .slice (some ad93) 2 2), (2, .bool false), (1, .pointer (some ⟨b3, 0, none⟩))] h117 (Kw.nil hB110) fun q118 h119 => ?_
    clear h117
    refine eG 5 27 (.binOp .neq 3 (.tmp 26) (.const (.int .i64 0)) 3) 4 (3, false) (.bool (payR i != (0 : Int))) (g2 25 (rfl : false = false)) h119 fun q120 h121 => ?_
    clear h119
    have h122 := h121.keep [(27, .bool false), (26, .int .i64 (payR i)), (25, .bool false), (5, .int .i64 (payR i)), (3, .slice (some ad93) 2 2), (2, .bool false), (1, .pointer (some ⟨b3, 0, none⟩))] ⟨look_bool rfl (by rw [← pay_ref]; exact hc20), rfl, rfl, rfl, rfl, rfl, rfl, trivial⟩
    clear h121
    refine b1 25 (rfl : false = false) (.C 6 28 <| .nil) [(28, .bool false), (25, .bool false), (5, .int .i64 (payR i)), (3, .slice (some ad93) 2 2), (2, .bool false), (1, .pointer (some ⟨b3, 0, none⟩))] h122 (Kw.nil hB110) fun q123 h124 => ?_
    clear h122
    refine b1 28 (rfl : false = false) (.K 7 29 <| .K 8 30 <| .K 9 31 <| .nil) [(31, undef), (28, .bool false), (25, .bool false), (5, .int .i64 (payR i)), (3, .slice (some ad93) 2 2), (2, .bool false), (1, .pointer (some ⟨b3, 0, none⟩))] h124 (Kw.nil hB110) fun q125 h126 => ?_
    clear h124
    refine b1 25 (rfl : false = false) (.E 10 32 (.bool false) <| .E 11 33 (.bool false) <| .nil) [(33, .bool false), (5, .int .i64 (payR i)), (3, .slice (some ad93) 2 2), (2, .bool false), (1, .pointer (some ⟨b3, 0, none⟩))] h126 (Kw.nil hB110) fun q127 h128 => ?_
    clear h126
    refine wpO_end ?_
    refine then_n ?_
    refine kC 33 false h128 (fun e129 => Bool.noConfusion (e129.symm.trans (rfl))) (fun _ => ?_)
    refine c_skip (by kernel_rfl) ?_
    refine then_n ?_
    refine kS ?_
    refine kS ?_
    refine rp 2 ?_
    refine b0 (.C 0 34 <| .nil) [(34, .int .i64 (payR i)), (3, .slice (some ad93) 2 2), (2, .bool false), (1, .pointer (some ⟨b3, 0, none⟩))] h128 (Kw.nil hB110) fun q130 h131 => ?_
    clear h128
    refine eE 1 35 (.binOp .neq 3 (.tmp 34) (.const (.int .i64 0)) 3) 4 (.bool (payR i != (0 : Int))) h131 fun q132 h133 => ?_
    clear h131
    have h134 := h133.keep [(35, .bool false), (34, .int .i64 (payR i)), (3, .slice (some ad93) 2 2), (2, .bool false), (1, .pointer (some ⟨b3, 0, none⟩))] ⟨look_bool rfl (by rw [← pay_ref]; exact hc20), rfl, rfl, rfl, rfl, trivial⟩
    clear h133
    refine wpO_end ?_
    have h135 := h134.keep [(35, .bool false), (3, .slice (some ad93) 2 2), (2, .bool false), (1, .pointer (some ⟨b3, 0, none⟩))] ⟨rfl, rfl, rfl, rfl, trivial⟩
    clear h134
    refine then_n ?_
    refine kC 35 false h135 (fun e136 => Bool.noConfusion (e136.symm.trans (rfl))) (fun _ => ?_)
    refine c_skip (by kernel_rfl) ?_
    refine then_n ?_
    refine kS ?_
    refine rp 3 ?_
    refine b0 (.Y 0 37 0 0 16 <| .nil) [(37, insV i A c), (3, .slice (some ad93) 2 2), (2, .bool false)] h135 ((Kw.nil hB110).cons (hE99.below hB110.bel)) fun q137 h138 => ?_
    clear h135
    refine sC 1 38 h138 gok_none (p34 i A c w108) ?_
    rintro _ w143 ⟨ad141, rfl, he142, hb144⟩
    have hB145 := hB110.call hb144
    refine ⟨_, rfl, trivial, fun q139 h140 => ?_⟩
    clear h138 hB110 hb144
    have he146 : ∀ k < 2, El w143 (ad93.add (k * 4)) (pC i k) := fun k hk => (he94 k hk).below hB145.bel
    have hE147 := hE99.below hB145.bel
    have hbl148 := (hbl100.trans (hB145.bel.mono hbl100.size))
    have hB149 := Bx.refl w143
    clear hB145
    refine b0 (.C 2 6 <| .nil) [(6, .slice (some ad141) 2 2), (3, .slice (some ad93) 2 2), (2, .bool false)] h140 (Kw.nil hB149) fun q150 h151 => ?_
    clear h140
    refine wpO_end ?_
    refine then_n ?_
    refine kS ?_
    refine kS ?_
    have hD152 := hB149.drew
    refine rd (Bx w143 []) 15 [⟨0, true, 0, 8, 549755813888⟩, ⟨1, true, 1, 549755813888, 1099511627776⟩, ⟨2, true, 2, 1099511627776, 2199023255552⟩, ⟨3, true, 4, 2199023255552, 4398046511104⟩, ⟨4, true, 8, 4398046511112, 8796093022208⟩, ⟨5, true, 24, 13194139533312, 17592186044416⟩, ⟨6, true, 40, 21990232555520, 35184372088832⟩, ⟨7, true, 72, 39582418599936, 70368744177664⟩, ⟨8, true, 8, 4398046511112, 140737488355328⟩, ⟨9, true, 264, 145135534866432, 281474976710656⟩, ⟨10, true, 520, 285873023221760, 562949953421312⟩, ⟨11, true, 1032, 567347999932416, 1125899906842624⟩, ⟨12, true, 2184, 1200666697531392, 2251799813685248⟩, ⟨13, true, 4104, 2256197860196352, 4503599627370496⟩, ⟨14, true, 8200, 4507997673881600, 9007199254740992⟩] hD152 ?_
    generalize World.drew w143 = w153 at hD152 ⊢
    refine d1 42 (rfl : false = false) (.C 0 39 <| .E 1 40 (.int .i64 2) <| .E 2 41 (.bool false) <| .C 3 42 <| .C 4 43 <| .nil) [(43, .slice (some ad93) 2 2), (42, .bool false), (6, .slice (some ad141) 2 2), (3, .slice (some ad93) 2 2), (2, .bool false)] h151 (fun _ hS => Kw.nil hS) fun q154 h155 => ?_
    clear h151
    refine fG 5 44 (.indexAddr 52 (.tmp 43) (.const (.int .i64 0))) 0 (3, false) (.pointer (some ((ad93.add (0 * 4)).add 0))) (g2 42 (rfl : false = false)) h155 (hr := fun _ hS => r_index0 (n := 2) (c := 2) (kd := .i64) (by kernel_rfl) (by kernel_rfl) (by decide) (by kernel_rfl)) fun q156 h157 => ?_
    clear h155
    refine d1 42 (rfl : false = false) (.F 6 45 0 0 3 <| .X 7 46 0 3 <| .C 8 47 <| .nil) [(47, .slice (some ad93) 2 2), (46, .int .i64 (pD i 0)), (42, .bool false), (6, .slice (some ad141) 2 2), (3, .slice (some ad93) 2 2), (2, .bool false)] h157 (fun _ hS => (Kw.nil hS).cons ((he146 0 (by decide)).below hS.bel)) fun q158 h159 => ?_
    clear h157
    refine fG 9 48 (.indexAddr 52 (.tmp 47) (.const (.int .i64 1))) 0 (3, false) (.pointer (some ((ad93.add (1 * 4)).add 0))) (g2 42 (rfl : false = false)) h159 (hr := fun _ hS => r_index0 (n := 2) (c := 2) (kd := .i64) (by kernel_rfl) (by kernel_rfl) (by decide) (by kernel_rfl)) fun q160 h161 => ?_
    clear h159
    refine d1 42 (rfl : false = false) (.F 10 49 0 0 3 <| .X 11 50 0 3 <| .E 12 51 (.int .i64 (IntKind.i64.wrap ((pD i 0) + (pD i 1)))) <| .nil) [(51, .int .i64 (IntKind.i64.wrap ((pD i 0) + (pD i 1)))), (42, .bool false), (6, .slice (some ad141) 2 2), (3, .slice (some ad93) 2 2), (2, .bool false)] h161 (fun _ hS => (Kw.nil hS).cons ((he146 1 (by decide)).below hS.bel)) fun q162 h163 => ?_
    clear h161
    refine fG 13 52 (.binOp .neq 2 (.tmp 51) (.const (.int .i64 0)) 2) 4 (3, false) (.bool (IntKind.i64.wrap ((pD i 0) + (pD i 1)) != (0 : Int))) (g2 42 (rfl : false = false)) h163 fun q164 h165 => ?_
    clear h163
    have h166 := h165.keep [(52, .bool false), (51, .int .i64 (IntKind.i64.wrap ((pD i 0) + (pD i 1)))), (42, .bool false), (6, .slice (some ad141) 2 2), (3, .slice (some ad93) 2 2), (2, .bool false)] ⟨look_bool rfl (neg_sum hok), rfl, rfl, rfl, rfl, rfl, trivial⟩
    clear h165
    refine d0 (.E 14 53 (.bool false) <| .nil) [(53, .bool false), (6, .slice (some ad141) 2 2), (3, .slice (some ad93) 2 2), (2, .bool false)] h166 (fun _ hS => Kw.nil hS) fun q167 h168 => ?_
    clear h166
    refine wpO_end ?_
    refine then_n ?_
    refine kC 53 false h168 (fun e169 => Bool.noConfusion (e169.symm.trans (rfl))) (fun _ => ?_)
    refine c_skip (by kernel_rfl) ?_
    refine then_n ?_
    refine kS ?_
    refine kS ?_
    refine rp 1 ?_
    refine b0 (.C 0 7 <| .nil) [(7, .int .i64 0), (6, .slice (some ad141) 2 2), (3, .slice (some ad93) 2 2), (2, .bool false)] h168 (Kw.nil hD152) fun q170 h171 => ?_
    clear h168
    refine wpO_end ?_
    refine then_n ?_
    refine c_block 0 (by kernel_rfl) ?_
    refine c_loop (by kernel_rfl) (fun qa qw => ∃ k : Nat, (k ≤ 2) ∧ Fr 108 [(7, .int .i64 ((k : Nat) : Int)), (3, .slice (some ad93) 2 2), (6, .slice (some ad141) 2 2)] qa ∧ Bx w143 [] qw) (fun qa _ => (((2 : Int)) - intAt qa 7).toNat) ⟨0, Nat.zero_le _, h171.keep _ ⟨rfl, rfl, rfl, trivial⟩, hD152⟩ ?_
    rintro q172 w173 ⟨k, hk176, h174, hB175⟩
    have hm177 := h174.int (k := 7) (kd := .i64) (z := ((k : Nat) : Int)) rfl
    clear h171 hD152
    refine kS ?_
    refine kS ?_
    refine rp 2 ?_
    refine b0 (.C 0 54 <| .E 1 55 (.bool (decide (((k : Nat) : Int) < (2 : Int)))) <| .nil) [(55, .bool (decide (((k : Nat) : Int) < (2 : Int)))), (7, .int .i64 ((k : Nat) : Int)), (3, .slice (some ad93) 2 2), (6, .slice (some ad141) 2 2)] h174 (Kw.nil hB175) fun q178 h179 => ?_
    clear h174
    refine wpO_end ?_
    refine then_n ?_
    refine kC 55 (decide (((k : Nat) : Int) < (2 : Int))) h179 (fun hc180 => ?_) (fun hc180 => ?_)
    ·
      have hp181 : (((k : Nat) : Int) < (2 : Int)) := of_decide_eq_true hc180
      have hlt : k < 2 := by omega
      refine c_skip (by kernel_rfl) ?_
      refine then_n ?_
      refine kS ?_
      refine c_block 1 (by kernel_rfl) ?_
      refine kS ?_
      refine rp 7 ?_
      refine b0 (.C 0 58 <| .C 1 59 <| .nil) [(59, .int .i64 ((k : Nat) : Int)), (58, .slice (some ad93) 2 2), (55, .bool (decide (((k : Nat) : Int) < (2 : Int)))), (7, .int .i64 ((k : Nat) : Int)), (3, .slice (some ad93) 2 2), (6, .slice (some ad141) 2 2)] h179 (Kw.nil hB175) fun q182 h183 => ?_
      clear h179
      refine eE 2 60 (.indexAddr 52 (.tmp 58) (.tmp 59)) 0 (.pointer (some ((ad93.add (k * 4)).add 0))) h183 (hr := r_index0 (n := 2) (c := 2) (kd := .i64) (by kernel_rfl) (by kernel_rfl) hlt (by kernel_rfl)) fun q184 h185 => ?_
      clear h183
      refine b0 (.F 3 61 0 0 0 <| .Y 4 62 0 0 3 <| .nil) [(62, .agg #[.string (pO i k), .int .i64 (pK i k), .string csh]), (55, .bool (decide (((k : Nat) : Int) < (2 : Int)))), (7, .int .i64 ((k : Nat) : Int)), (3, .slice (some ad93) 2 2), (6, .slice (some ad141) 2 2)] h185 ((Kw.nil hB175).cons ((he146 k hlt).below hB175.bel)) fun q186 h187 => ?_
      clear h185
      refine sA 5 8 (fun b => .pointer (some ⟨b, 0, none⟩)) (.cells #[.string (⟨#[]⟩ : ByteArray), .int .i64 0, .string (⟨#[]⟩ : ByteArray)] 87 (0, 0)) h187 gok_none hB175 (fun _ _ hq => trivial) (fun b190 w191 hB192 hN q188 h189 => ?_)
      clear h187 hB175 hN
      refine sW 6 0 0 [(b190, .cells #[.string (pO i k), .int .i64 (pK i k), .string csh] 87 (0, 0))] h189 gok_none hB192 (.inr fun _ _ => trivial) (fun w195 hB196 hT q193 h194 => ?_)
      clear h189 hB192
      clear hT
      refine wpO_end ?_
      have h197 := h194.keep [(8, .pointer (some ⟨b190, 0, none⟩)), (55, .bool (decide (((k : Nat) : Int) < (2 : Int)))), (7, .int .i64 ((k : Nat) : Int)), (3, .slice (some ad93) 2 2), (6, .slice (some ad141) 2 2)] ⟨rfl, rfl, rfl, rfl, rfl, trivial⟩
      clear h194
      refine then_n ?_
      refine kS ?_
      have hD198 := hB196.drew
      refine rd (Bx w143 [(b190, .cells #[.string (pO i k), .int .i64 (pK i k), .string csh] 87 (0, 0))]) 44 [⟨0, true, 0, 256, 9223372036854775808⟩, ⟨1, true, 1, 9223372036854775808, 18446744073709551616⟩, ⟨2, true, 0, 64, 36893488147419103232⟩, ⟨3, true, 0, 128, 73786976294838206464⟩, ⟨4, true, 12, 110680464442257309696, 147573952589676412928⟩, ⟨5, true, 16, 147573952589676412928, 295147905179352825856⟩, ⟨6, true, 32, 295147905179352825856, 590295810358705651712⟩, ⟨7, true, 64, 590295810358705651712, 1180591620717411303424⟩, ⟨8, true, 130, 1199038364791120855040, 2361183241434822606848⟩, ⟨9, true, 256, 2361183241434822606848, 4722366482869645213696⟩, ⟨10, true, 512, 4722366482869645213952, 9444732965739290427392⟩, ⟨11, true, 1536, 14167099448608935641088, 18889465931478580854784⟩, ⟨12, true, 512, 4722366482869645213760, 37778931862957161709568⟩, ⟨13, true, 512, 4722366482869645213824, 75557863725914323419136⟩, ⟨14, true, 12800, 118059162071741130342400, 151115727451828646838272⟩, ⟨15, true, 16896, 155838093934698292051968, 302231454903657293676544⟩, ⟨16, true, 33280, 306953821386526938890240, 604462909807314587353088⟩, ⟨17, true, 66048, 609185276290184232566784, 1208925819614629174706176⟩, ⟨18, true, 133632, 1232537652028977400774656, 2417851639229258349412352⟩, ⟨19, true, 262656, 2422574005712127994626048, 4835703278458516698824704⟩, ⟨20, true, 524800, 4835703278458516698824704, 9671406556917033397649408⟩, ⟨21, true, 1048576, 9671406556917033397649664, 19342813113834066795298816⟩, ⟨22, true, 3145728, 29014219670751100192948224, 38685626227668133590597632⟩, ⟨23, true, 1048576, 9671406556917033397649472, 77371252455336267181195264⟩, ⟨24, true, 1048576, 9671406556917033397649536, 154742504910672534362390528⟩, ⟨25, true, 26214400, 241785163922925834941235200, 309485009821345068724781056⟩, ⟨26, true, 34603008, 319156416378262102122430464, 618970019642690137449562112⟩, ⟨27, true, 68157440, 628641426199607170847211520, 1237940039285380274899124224⟩, ⟨28, true, 135266304, 1247611445842297308296773632, 2475880078570760549798248448⟩, ⟨29, true, 273678336, 2524237111355345716786495488, 4951760157141521099596496896⟩, ⟨30, true, 537919488, 4961431563698438132994146304, 9903520314283042199192993792⟩, ⟨31, true, 1074790400, 9903520314283042199192993792, 19807040628566084398385987584⟩, ⟨32, true, 2147483648, 19807040628566084398385987592, 39614081257132168796771975168⟩, ⟨33, true, 2147483648, 19807040628566084398385987712, 79228162514264337593543950336⟩, ⟨34, true, 15032385536, 138649284399962590788701913088, 158456325028528675187087900672⟩, ⟨35, true, 19327352832, 178263365657094759585473888256, 316912650057057350374175801344⟩, ⟨36, true, 36507222016, 336719690685623434772561788928, 633825300114114700748351602688⟩, ⟨37, true, 2147483648, 19807040628566084398385987648, 1267650600228229401496703205376⟩, ⟨38, true, 2147483648, 19807040628566084398385987712, 2535301200456458802993406410752⟩, ⟨39, true, 414464344064, 3822758841313254288888495603712, 5070602400912917605986812821504⟩, ⟨40, true, 551903297536, 5090409441541483690385198809088, 10141204801825835211973625643008⟩, ⟨41, true, 1101659111424, 10161011842454401296372011630592, 20282409603651670423947251286016⟩, ⟨42, true, 2269890215936, 20936041944394351209093988876288, 40564819207303340847894502572032⟩, ⟨43, true, 4400193994752, 40584626247931906932292888559616, 81129638414606681695789005144064⟩] hD198 ?_
      generalize World.drew w195 = w199 at hD198 ⊢
      refine d0 (.C 0 63 <| .L 1 64 0 0 <| .C 2 65 <| .C 3 66 <| .nil) [(66, .int .i64 ((k : Nat) : Int)), (65, .slice (some ad141) 2 2), (64, .string (pO i k)), (8, .pointer (some ⟨b190, 0, none⟩)), (55, .bool (decide (((k : Nat) : Int) < (2 : Int)))), (7, .int .i64 ((k : Nat) : Int)), (3, .slice (some ad93) 2 2), (6, .slice (some ad141) 2 2)] h197 (fun _ hS => Kw.nil hS) fun q200 h201 => ?_
      clear h197
      refine fE 4 67 (.indexAddr 59 (.tmp 65) (.tmp 66)) 0 (.pointer (some ((ad141.add (k * 4)).add 0))) h201 (hr := fun _ hS => r_index0 (n := 2) (c := 2) (kd := .i64) (by kernel_rfl) (by kernel_rfl) hlt (by kernel_rfl)) fun q202 h203 => ?_
      clear h201
      refine d0 (.F 5 68 0 0 0 <| .F 6 69 0 0 0 <| .X 7 70 0 0 <| .nil) [(70, .string (pO i k)), (64, .string (pO i k)), (8, .pointer (some ⟨b190, 0, none⟩)), (55, .bool (decide (((k : Nat) : Int) < (2 : Int)))), (7, .int .i64 ((k : Nat) : Int)), (3, .slice (some ad93) 2 2), (6, .slice (some ad141) 2 2)] h203 (fun _ hS => (Kw.nil hS).cons ((he142 k hlt).below hS.bel)) fun q204 h205 => ?_
      clear h203
      refine fE 8 71 (.binOp .neq 9 (.tmp 64) (.tmp 70) 9) 4 (.bool ((pO i k).toList != (pO i k).toList)) h205 fun q206 h207 => ?_
      clear h205
      have h208 := h207.keep [(71, .bool false), (70, .string (pO i k)), (64, .string (pO i k)), (8, .pointer (some ⟨b190, 0, none⟩)), (55, .bool (decide (((k : Nat) : Int) < (2 : Int)))), (7, .int .i64 ((k : Nat) : Int)), (3, .slice (some ad93) 2 2), (6, .slice (some ad141) 2 2)] ⟨look_bool rfl (ne_self _), rfl, rfl, rfl, rfl, rfl, rfl, rfl, trivial⟩
      clear h207
      refine d1 72 (rfl : false = false) (.C 9 72 <| .C 10 73 <| .L 11 74 0 1 <| .C 12 75 <| .C 13 76 <| .nil) [(76, .int .i64 ((k : Nat) : Int)), (75, .slice (some ad141) 2 2), (74, .int .i64 (pK i k)), (72, .bool false), (8, .pointer (some ⟨b190, 0, none⟩)), (55, .bool (decide (((k : Nat) : Int) < (2 : Int)))), (7, .int .i64 ((k : Nat) : Int)), (3, .slice (some ad93) 2 2), (6, .slice (some ad141) 2 2)] h208 (fun _ hS => Kw.nil hS) fun q209 h210 => ?_
      clear h208
      refine fG 14 77 (.indexAddr 59 (.tmp 75) (.tmp 76)) 0 (9, false) (.pointer (some ((ad141.add (k * 4)).add 0))) (g2 72 (rfl : false = false)) h210 (hr := fun _ hS => r_index0 (n := 2) (c := 2) (kd := .i64) (by kernel_rfl) (by kernel_rfl) hlt (by kernel_rfl)) fun q211 h212 => ?_
      clear h210
      refine d1 72 (rfl : false = false) (.F 15 78 0 0 0 <| .F 16 79 0 0 1 <| .X 17 80 0 1 <| .nil) [(80, .int .i64 (pK i k)), (74, .int .i64 (pK i k)), (72, .bool false), (8, .pointer (some ⟨b190, 0, none⟩)), (55, .bool (decide (((k : Nat) : Int) < (2 : Int)))), (7, .int .i64 ((k : Nat) : Int)), (3, .slice (some ad93) 2 2), (6, .slice (some ad141) 2 2)] h212 (fun _ hS => (Kw.nil hS).cons ((he142 k hlt).below hS.bel)) fun q213 h214 => ?_
      clear h212
      refine fG 18 81 (.binOp .neq 3 (.tmp 74) (.tmp 80) 3) 4 (9, false) (.bool (pK i k != pK i k)) (g2 72 (rfl : false = false)) h214 fun q215 h216 => ?_
      clear h214
      have h217 := h216.keep [(81, .bool false), (80, .int .i64 (pK i k)), (74, .int .i64 (pK i k)), (72, .bool false), (8, .pointer (some ⟨b190, 0, none⟩)), (55, .bool (decide (((k : Nat) : Int) < (2 : Int)))), (7, .int .i64 ((k : Nat) : Int)), (3, .slice (some ad93) 2 2), (6, .slice (some ad141) 2 2)] ⟨look_bool rfl (bne_self_eq_false _), rfl, rfl, rfl, rfl, rfl, rfl, rfl, rfl, trivial⟩
      clear h216
      refine d1 83 (rfl : false = false) (.E 19 82 (.bool false) <| .C 20 83 <| .C 21 84 <| .L 22 85 0 2 <| .C 23 86 <| .C 24 87 <| .nil) [(87, .int .i64 ((k : Nat) : Int)), (86, .slice (some ad141) 2 2), (85, .string csh), (83, .bool false), (8, .pointer (some ⟨b190, 0, none⟩)), (55, .bool (decide (((k : Nat) : Int) < (2 : Int)))), (7, .int .i64 ((k : Nat) : Int)), (3, .slice (some ad93) 2 2), (6, .slice (some ad141) 2 2)] h217 (fun _ hS => Kw.nil hS) fun q218 h219 => ?_
      clear h217
      refine fG 25 88 (.indexAddr 59 (.tmp 86) (.tmp 87)) 0 (20, false) (.pointer (some ((ad141.add (k * 4)).add 0))) (g2 83 (rfl : false = false)) h219 (hr := fun _ hS => r_index0 (n := 2) (c := 2) (kd := .i64) (by kernel_rfl) (by kernel_rfl) hlt (by kernel_rfl)) fun q220 h221 => ?_
      clear h219
      refine d1 83 (rfl : false = false) (.F 26 89 0 0 0 <| .F 27 90 0 0 2 <| .X 28 91 0 2 <| .nil) [(91, .string csh), (85, .string csh), (83, .bool false), (8, .pointer (some ⟨b190, 0, none⟩)), (55, .bool (decide (((k : Nat) : Int) < (2 : Int)))), (7, .int .i64 ((k : Nat) : Int)), (3, .slice (some ad93) 2 2), (6, .slice (some ad141) 2 2)] h221 (fun _ hS => (Kw.nil hS).cons ((he142 k hlt).below hS.bel)) fun q222 h223 => ?_
      clear h221
      refine fG 29 92 (.binOp .neq 9 (.tmp 85) (.tmp 91) 9) 4 (20, false) (.bool (csh.toList != csh.toList)) (g2 83 (rfl : false = false)) h223 fun q224 h225 => ?_
      clear h223
      have h226 := h225.keep [(92, .bool false), (91, .string csh), (85, .string csh), (83, .bool false), (8, .pointer (some ⟨b190, 0, none⟩)), (55, .bool (decide (((k : Nat) : Int) < (2 : Int)))), (7, .int .i64 ((k : Nat) : Int)), (3, .slice (some ad93) 2 2), (6, .slice (some ad141) 2 2)] ⟨look_bool rfl (ne_self _), rfl, rfl, rfl, rfl, rfl, rfl, rfl, rfl, trivial⟩
      clear h225
      refine d1 94 (rfl : false = false) (.E 30 93 (.bool false) <| .C 31 94 <| .C 32 95 <| .C 33 96 <| .nil) [(96, .int .i64 ((k : Nat) : Int)), (95, .slice (some ad93) 2 2), (94, .bool false), (8, .pointer (some ⟨b190, 0, none⟩)), (55, .bool (decide (((k : Nat) : Int) < (2 : Int)))), (7, .int .i64 ((k : Nat) : Int)), (3, .slice (some ad93) 2 2), (6, .slice (some ad141) 2 2)] h226 (fun _ hS => Kw.nil hS) fun q227 h228 => ?_
      clear h226
      refine fG 34 97 (.indexAddr 52 (.tmp 95) (.tmp 96)) 0 (31, false) (.pointer (some ((ad93.add (k * 4)).add 0))) (g2 94 (rfl : false = false)) h228 (hr := fun _ hS => r_index0 (n := 2) (c := 2) (kd := .i64) (by kernel_rfl) (by kernel_rfl) hlt (by kernel_rfl)) fun q229 h230 => ?_
      clear h228
      refine d1 94 (rfl : false = false) (.F 35 98 0 0 3 <| .X 36 99 0 3 <| .C 37 100 <| .C 38 101 <| .nil) [(101, .int .i64 ((k : Nat) : Int)), (100, .slice (some ad141) 2 2), (99, .int .i64 (pD i k)), (94, .bool false), (8, .pointer (some ⟨b190, 0, none⟩)), (55, .bool (decide (((k : Nat) : Int) < (2 : Int)))), (7, .int .i64 ((k : Nat) : Int)), (3, .slice (some ad93) 2 2), (6, .slice (some ad141) 2 2)] h230 (fun _ hS => (Kw.nil hS).cons ((he146 k hlt).below hS.bel)) fun q231 h232 => ?_
      clear h230
      refine fG 39 102 (.indexAddr 59 (.tmp 100) (.tmp 101)) 0 (31, false) (.pointer (some ((ad141.add (k * 4)).add 0))) (g2 94 (rfl : false = false)) h232 (hr := fun _ hS => r_index0 (n := 2) (c := 2) (kd := .i64) (by kernel_rfl) (by kernel_rfl) hlt (by kernel_rfl)) fun q233 h234 => ?_
      clear h232
      refine d1 94 (rfl : false = false) (.F 40 103 0 0 3 <| .X 41 104 0 3 <| .nil) [(104, .int .i64 (pD i k)), (99, .int .i64 (pD i k)), (94, .bool false), (8, .pointer (some ⟨b190, 0, none⟩)), (55, .bool (decide (((k : Nat) : Int) < (2 : Int)))), (7, .int .i64 ((k : Nat) : Int)), (3, .slice (some ad93) 2 2), (6, .slice (some ad141) 2 2)] h234 (fun _ hS => (Kw.nil hS).cons ((he142 k hlt).below hS.bel)) fun q235 h236 => ?_
      clear h234
      refine fG 42 105 (.binOp .neq 2 (.tmp 99) (.tmp 104) 2) 4 (31, false) (.bool (pD i k != pD i k)) (g2 94 (rfl : false = false)) h236 fun q237 h238 => ?_
      clear h236
      have h239 := h238.keep [(105, .bool false), (104, .int .i64 (pD i k)), (99, .int .i64 (pD i k)), (94, .bool false), (8, .pointer (some ⟨b190, 0, none⟩)), (55, .bool (decide (((k : Nat) : Int) < (2 : Int)))), (7, .int .i64 ((k : Nat) : Int)), (3, .slice (some ad93) 2 2), (6, .slice (some ad141) 2 2)] ⟨look_bool rfl (bne_self_eq_false _), rfl, rfl, rfl, rfl, rfl, rfl, rfl, rfl, trivial⟩
      clear h238
      refine d0 (.E 43 106 (.bool false) <| .nil) [(106, .bool false), (8, .pointer (some ⟨b190, 0, none⟩)), (55, .bool (decide (((k : Nat) : Int) < (2 : Int)))), (7, .int .i64 ((k : Nat) : Int)), (3, .slice (some ad93) 2 2), (6, .slice (some ad141) 2 2)] h239 (fun _ hS => Kw.nil hS) fun q240 h241 => ?_
      clear h239
      refine wpO_end ?_
      refine then_n ?_
      refine kC 106 false h241 (fun e242 => Bool.noConfusion (e242.symm.trans (rfl))) (fun _ => ?_)
      refine c_skip (by kernel_rfl) ?_
      refine inB_n ?_
      refine then_n ?_
      refine rp 3 ?_
      refine b0 (.C 0 56 <| .E 1 57 (.int .i64 (IntKind.i64.wrap (((k : Nat) : Int) + 1))) <| .C 2 7 <| .nil) [(7, .int .i64 (IntKind.i64.wrap (((k : Nat) : Int) + 1))), (106, .bool false), (8, .pointer (some ⟨b190, 0, none⟩)), (55, .bool (decide (((k : Nat) : Int) < (2 : Int)))), (3, .slice (some ad93) 2 2), (6, .slice (some ad141) 2 2)] h241 (Kw.nil hD198) fun q243 h244 => ?_
      clear h241
      refine wpO_end ?_
      have h245 := h244.keep [(7, .int .i64 (((k + 1) : Nat) : Int)), (3, .slice (some ad93) 2 2), (6, .slice (some ad141) 2 2)] ⟨look_int rfl (wrap_succ (by omega)), rfl, rfl, trivial⟩
      have hm246 := h245.int (k := 7) (kd := .i64) (z := (((k + 1) : Nat) : Int)) rfl
      refine then_n ⟨⟨k + 1, by omega, h245, hD198.tail⟩, ?_⟩
      show (((2 : Int)) - intAt _ 7).toNat < (((2 : Int)) - intAt _ 7).toNat
      rw [hm177, hm246]; omega
    have hp247 : ¬ (((k : Nat) : Int) < (2 : Int)) := of_decide_eq_false hc180
    refine c_exit 0 (by kernel_rfl) ?_
    refine then_e (then_e (inB_hit ?_))
    refine then_n ?_
    refine kS ?_
    refine rp 2 ?_
    refine sC 0 107 h179 gok_none (known w173) ?_
    rintro _ w250 ⟨rfl, hb251⟩
    have hB252 := hB175.call hb251
    refine ⟨_, rfl, trivial, fun q248 h249 => ?_⟩
    clear h179 hB175 hb251
    refine b0 (.C 1 2 <| .nil) [(2, .bool true)] h249 (Kw.nil hB252) fun q253 h254 => ?_
    clear h249
    refine wpO_end ?_
    refine then_n ?_
    refine c_ret (by kernel_rfl) ?_
    refine ret1 (t := 2) (v := .bool true) h254 (by kernel_rfl) (by kernel_rfl) ?_
    exact ⟨ret_eq (rfl), (hbl148.trans (hB252.bel.mono hbl148.size))⟩

end Go.Proofs.YtljegdokbifoiaaGreatDoor.Af
