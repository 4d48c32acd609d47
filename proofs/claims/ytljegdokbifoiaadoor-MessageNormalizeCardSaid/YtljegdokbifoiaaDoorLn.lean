/- The law of Normalize. No condition but the argument's own. -/
import Derived.Test.YtljegdokbifoiaaDoorRn
import Derived.Test.YtljegdokbifoiaaDoorNp
namespace Go.Proofs.YtljegdokbifoiaaDoor.Af
open Go.RowKit
set_option maxHeartbeats 4000000 in
set_option maxRecDepth 20000 in
theorem law10 (i : Ins) (A : Option Addr) (c : Nat) (w : World) (hr : Rd w A (lkc i.links)) : Calls Tryd.prog 10 #[insV i A c] w fun e w' => e = .returned (.bool true) ∧ Below w.heap.size w w' := by
  refine enter Tryd.func10 (by kernel_rfl) ?_ (by kernel_rfl)
  intro q0 h0
  replace h0 := h0.conv (l' := [(0, insV i A c)]) rfl
  have hB := Bx.refl w
  refine kS ?_
  refine rp 2 ?_
  refine sA 0 1 (fun b => .pointer (some ⟨b, 0, none⟩)) (.cells (insV i A c).cells 24 (0, 0)) h0 gok_none hB (fun _ _ hq => trivial) (fun b3 w4 hB5 hN q1 h2 => ?_)
  clear h0 hB hN
  refine b0 (.C 1 2 <| .nil) [(2, .bool false), (1, .pointer (some ⟨b3, 0, none⟩))] h2 (Kw.nil hB5) fun q6 h7 => ?_
  clear h2
  refine wpO_end ?_
  refine then_n ?_
  refine kS ?_
  refine kS ?_
  refine rp 4 ?_
  refine b0 (.C 0 9 <| .L 1 10 0 15 <| .E 2 11 (.int .i64 ((i.links.length : Nat) : Int)) <| .E 3 12 (.bool (decide ((40 : Int) < ((i.links.length : Nat) : Int)))) <| .nil) [(12, .bool (decide ((40 : Int) < ((i.links.length : Nat) : Int)))), (2, .bool false), (1, .pointer (some ⟨b3, 0, none⟩))] h7 (Kw.nil hB5) fun q8 h9 => ?_
  clear h7
  refine wpO_end ?_
  refine then_n ?_
  refine kC 12 (decide ((40 : Int) < ((i.links.length : Nat) : Int))) h9 (fun hc10 => ?_) (fun hc10 => ?_)
  ·
    have hp11 : ((40 : Int) < ((i.links.length : Nat) : Int)) := of_decide_eq_true hc10
    refine kS ?_
    refine rp 2 ?_
    refine sC 0 13 h9 gok_none (c12 w4) ?_
    rintro _ w14 ⟨rfl, hb15⟩
    have hB16 := hB5.call hb15
    refine ⟨_, rfl, trivial, fun q12 h13 => ?_⟩
    clear h9 hB5 hb15
    refine b0 (.C 1 2 <| .nil) [(2, .bool true), (1, .pointer (some ⟨b3, 0, none⟩))] h13 (Kw.nil hB16) fun q17 h18 => ?_
    clear h13
    refine wpO_end ?_
    refine then_n ?_
    refine c_ret (by kernel_rfl) ?_
    refine then_r ?_
    refine ret1 (t := 2) (v := .bool true) h18 (by kernel_rfl) (by kernel_rfl) ?_
    exact ⟨ret_eq (rfl), hB16.bel⟩
  have hp19 : ¬ ((40 : Int) < ((i.links.length : Nat) : Int)) := of_decide_eq_false hc10
  have hal := nrm_len i
  have hal2 := nrm_len (nrmP i).1
  have hal3 : (nrmR i).1.links.length ≤ i.links.length := by rw [← nrm_ref]; exact nrm_len i
  refine c_skip (by kernel_rfl) ?_
  refine then_n ?_
  refine kS ?_
  refine rp 9 ?_
  refine b0 (.S 0 15 0 0 16 <| .nil) [(15, insV i A c), (2, .bool false), (1, .pointer (some ⟨b3, 0, none⟩))] h9 (Kw.nil hB5) fun q20 h21 => ?_
  clear h9
  refine sC 1 16 h21 gok_none (c13 i A c w4 (by omega) (hr.below hB5.bel)) ?_
  rintro _ w26 ⟨A24, cp25, rfl, ho30, hb27⟩
  have ho29 := own_base ho30 hB5.bel.size
  have hB28 := hB5.call hb27
  refine ⟨_, rfl, trivial, fun q22 h23 => ?_⟩
  clear h21 hB5 hb27
  refine sC 2 17 h23 gok_none (c36 i A24 cp25 _ w26 (by omega) ho29) ?_
  rintro _ w35 ⟨A33, cp34, rfl, ho39, hb36⟩
  have ho38 := own_base ho39 hB28.bel.size
  have hB37 := hB28.call hb36
  have ho40 := own_below ho29 hb36
  refine ⟨_, rfl, trivial, fun q31 h32 => ?_⟩
  clear h23 hB28 hb36
  refine b0 (.C 3 14 <| .E 4 18 (insV (nrmP i).1 A33 cp34) <| .E 5 19 (.int .i64 ((nrmP i).2)) <| .nil) [(19, .int .i64 ((nrmP i).2)), (18, insV (nrmP i).1 A33 cp34), (2, .bool false), (1, .pointer (some ⟨b3, 0, none⟩))] h32 (Kw.nil hB37) fun q41 h42 => ?_
  clear h32
  refine sA 6 3 (fun b => .pointer (some ⟨b, 0, none⟩)) (.cells #[.string (⟨#[]⟩ : ByteArray), .int .i64 0, .string (⟨#[]⟩ : ByteArray), .string (⟨#[]⟩ : ByteArray), .int .i64 0, .string (⟨#[]⟩ : ByteArray), .int .i64 0, .int .i64 0, .int .i64 0, .int .i64 0, .int .i64 0, .bool false, .int .i64 0, .bool false, .bool false, .slice none 0 0] 29 (0, 0)) h42 gok_none hB37 (fun _ _ hq => trivial) (fun b45 w46 hB47 hN q43 h44 => ?_)
  have ho48 := own_below ho40 hN
  have ho49 := own_below ho38 hN
  clear h42 hB37 hN
  refine sW 7 0 0 [(b45, .cells (insV (nrmP i).1 A33 cp34).cells 29 (0, 0)), (b3, .cells (insV i A c).cells 24 (0, 0))] h44 gok_none hB47 (.inr fun _ _ => trivial) (fun w52 hB53 hT q50 h51 => ?_)
  clear h44 hB47
  have ho54 := own_turned ho48 hT (by kernel_rfl)
  have ho55 := own_turned ho49 hT (by kernel_rfl)
  clear hT
  refine b0 (.C 8 4 <| .nil) [(4, .int .i64 ((nrmP i).2)), (3, .pointer (some ⟨b45, 0, none⟩)), (2, .bool false), (1, .pointer (some ⟨b3, 0, none⟩))] h51 (Kw.nil hB53) fun q56 h57 => ?_
  clear h51
  refine wpO_end ?_
  refine then_n ?_
  refine kS ?_
  refine rp 8 ?_
  refine b0 (.S 0 21 1 0 16 <| .nil) [(21, insV i A c), (4, .int .i64 ((nrmP i).2)), (3, .pointer (some ⟨b45, 0, none⟩)), (2, .bool false)] h57 (Kw.nil hB53) fun q58 h59 => ?_
  clear h57
  refine sC 1 22 h59 gok_none (c37 i A c w52 (by omega) (hr.below hB53.bel)) ?_
  rintro _ w64 ⟨A62, cp63, rfl, ho68, hb65⟩
  have ho67 := own_base ho68 hB53.bel.size
  have hB66 := hB53.call hb65
  have ho69 := own_below ho54 hb65
  have ho70 := own_below ho55 hb65
  refine ⟨_, rfl, trivial, fun q60 h61 => ?_⟩
  clear h59 hB53 hb65
  refine b0 (.C 2 20 <| .E 3 23 (insV (nrmR i).1 A62 cp63) <| .E 4 24 (.int .i64 ((nrmR i).2)) <| .nil) [(24, .int .i64 ((nrmR i).2)), (23, insV (nrmR i).1 A62 cp63), (4, .int .i64 ((nrmP i).2)), (3, .pointer (some ⟨b45, 0, none⟩)), (2, .bool false)] h61 (Kw.nil hB66) fun q71 h72 => ?_
  clear h61
  refine sA 5 5 (fun b => .pointer (some ⟨b, 0, none⟩)) (.cells #[.string (⟨#[]⟩ : ByteArray), .int .i64 0, .string (⟨#[]⟩ : ByteArray), .string (⟨#[]⟩ : ByteArray), .int .i64 0, .string (⟨#[]⟩ : ByteArray), .int .i64 0, .int .i64 0, .int .i64 0, .int .i64 0, .int .i64 0, .bool false, .int .i64 0, .bool false, .bool false, .slice none 0 0] 24 (0, 0)) h72 gok_none hB66 (fun _ _ hq => trivial) (fun b75 w76 hB77 hN q73 h74 => ?_)
  have ho78 := own_below ho69 hN
  have ho79 := own_below ho70 hN
  have ho80 := own_below ho67 hN
  clear h72 hB66 hN
  refine sW 6 0 0 [(b75, .cells (insV (nrmR i).1 A62 cp63).cells 24 (0, 0)), (b45, .cells (insV (nrmP i).1 A33 cp34).cells 29 (0, 0)), (b3, .cells (insV i A c).cells 24 (0, 0))] h74 gok_none hB77 (.inr fun _ _ => trivial) (fun w83 hB84 hT q81 h82 => ?_)
  clear h74 hB77
  have ho85 := own_turned ho78 hT (by kernel_rfl)
  have ho86 := own_turned ho79 hT (by kernel_rfl)
  have ho87 := own_turned ho80 hT (by kernel_rfl)
  clear hT
  refine b0 (.C 7 6 <| .nil) [(6, .int .i64 ((nrmR i).2)), (5, .pointer (some ⟨b75, 0, none⟩)), (4, .int .i64 ((nrmP i).2)), (3, .pointer (some ⟨b45, 0, none⟩)), (2, .bool false)] h82 (Kw.nil hB84) fun q88 h89 => ?_
  clear h82
  refine wpO_end ?_
  refine then_n ?_
  refine kS ?_
  refine kS ?_
  have hD90 := hB84.drew
  refine rd (Bx w [(b75, .cells (insV (nrmR i).1 A62 cp63).cells 24 (0, 0)), (b45, .cells (insV (nrmP i).1 A33 cp34).cells 29 (0, 0)), (b3, .cells (insV i A c).cells 24 (0, 0))]) 10 [⟨0, true, 0, 16, 33554432⟩, ⟨1, true, 0, 64, 67108864⟩, ⟨2, true, 3, 100663296, 134217728⟩, ⟨3, true, 4, 134217728, 268435456⟩, ⟨4, true, 8, 268435464, 536870912⟩, ⟨6, true, 8, 268435488, 2147483648⟩, ⟨5, false, 24, 805306368, 1073741824⟩, ⟨7, false, 104, 3489660928, 4294967296⟩, ⟨8, true, 136, 4563402752, 8589934592⟩, ⟨9, true, 264, 8858370048, 17179869184⟩] hD90 ?_
  have ho91 := own_drew ho85
  have ho92 := own_drew ho86
  have ho93 := own_drew ho87
  generalize World.drew w83 = w94 at hD90 ho91 ho92 ho93 ⊢
  refine d0 (.C 0 25 <| .C 1 26 <| .nil) [(26, .int .i64 ((nrmR i).2)), (25, .int .i64 ((nrmP i).2)), (6, .int .i64 ((nrmR i).2)), (5, .pointer (some ⟨b75, 0, none⟩)), (3, .pointer (some ⟨b45, 0, none⟩)), (2, .bool false)] h89 (fun _ hS => Kw.nil hS) fun q95 h96 => ?_
  clear h89
  refine fE 2 27 (.binOp .neq 3 (.tmp 25) (.tmp 26) 3) 4 (.bool ((nrmP i).2 != (nrmR i).2)) h96 fun q97 h98 => ?_
  clear h96
  have h99 := h98.keep [(27, .bool false), (26, .int .i64 ((nrmR i).2)), (25, .int .i64 ((nrmP i).2)), (6, .int .i64 ((nrmR i).2)), (5, .pointer (some ⟨b75, 0, none⟩)), (3, .pointer (some ⟨b45, 0, none⟩)), (2, .bool false)] ⟨look_bool rfl (by rw [nrm_ref]; simp), rfl, rfl, rfl, rfl, rfl, rfl, trivial⟩
  clear h98
  refine d1 28 (rfl : false = false) (.C 3 28 <| .S 4 29 1 0 16 <| .S 6 31 0 0 16 <| .nil) [(31, insV (nrmR i).1 A62 cp63), (29, insV (nrmP i).1 A33 cp34), (28, .bool false), (6, .int .i64 ((nrmR i).2)), (3, .pointer (some ⟨b45, 0, none⟩)), (2, .bool false)] h99 (fun _ hS => Kw.nil hS) fun q100 h101 => ?_
  clear h99
  refine sC 5 30 (g := (some (3, false))) h101 (g2 28 (rfl : false = false)) (c35 (nrmP i).1 A33 cp34 w94 (by omega) (own_rr ho92)) ?_
  rintro _ w106 ⟨A104, cp105, rfl, ho110, hb107⟩
  have ho109 := own_base ho110 hD90.bel.size
  have hB108 := hD90.call hb107
  have ho111 := own_below ho91 hb107
  have ho112 := own_below ho92 hb107
  have ho113 := own_below ho93 hb107
  refine ⟨_, rfl, hB108, fun q102 h103 => ?_⟩
  clear h101 hD90 hb107
  refine sC 7 32 (g := (some (3, false))) h103 (g2 28 (rfl : false = false)) (c25 (nrmP i).1 (nrmR i).1 A104 A62 cp105 cp63 w106 (show (nrmP i).1.links.length ≤ 4611686018427387904 by omega) (own_rr ho109) (own_rr ho113)) ?_
  rintro _ w116 ⟨rfl, hb117⟩
  have hB118 := hB108.call hb117
  have ho119 := own_below ho111 hb117
  have ho120 := own_below ho112 hb117
  have ho121 := own_below ho113 hb117
  have ho122 := own_below ho109 hb117
  refine ⟨_, rfl, hB118, fun q114 h115 => ?_⟩
  clear h103 hB108 hb117
  have h123 := h115.keep [(32, .bool true), (30, insV (nrmP i).1 A104 cp105), (31, insV (nrmR i).1 A62 cp63), (29, insV (nrmP i).1 A33 cp34), (28, .bool false), (6, .int .i64 ((nrmR i).2)), (3, .pointer (some ⟨b45, 0, none⟩)), (2, .bool false)] ⟨look_bool rfl (by rw [nrm_ref, ← same_eq]; exact ins_refl _), rfl, rfl, rfl, rfl, rfl, rfl, rfl, trivial⟩
  clear h115
  refine fG 8 33 (.unOp .not 4 (.tmp 32)) 4 (3, false) (.bool (!true)) (g2 28 (rfl : false = false)) h123 fun q124 h125 => ?_
  clear h123
  have h126 := h125.keep [(33, .bool false), (32, .bool true), (30, insV (nrmP i).1 A104 cp105), (31, insV (nrmR i).1 A62 cp63), (29, insV (nrmP i).1 A33 cp34), (28, .bool false), (6, .int .i64 ((nrmR i).2)), (3, .pointer (some ⟨b45, 0, none⟩)), (2, .bool false)] ⟨rfl, rfl, rfl, rfl, rfl, rfl, rfl, rfl, rfl, trivial⟩
  clear h125
  refine d0 (.E 9 34 (.bool false) <| .nil) [(34, .bool false), (6, .int .i64 ((nrmR i).2)), (3, .pointer (some ⟨b45, 0, none⟩)), (2, .bool false)] h126 (fun _ hS => Kw.nil hS) fun q127 h128 => ?_
  clear h126
  refine wpO_end ?_
  refine then_n ?_
  refine kC 34 false h128 (fun e129 => Bool.noConfusion (e129.symm.trans (rfl))) (fun _ => ?_)
  refine c_skip (by kernel_rfl) ?_
  refine then_n ?_
  refine kS ?_
  refine kS ?_
  refine rp 2 ?_
  refine b0 (.C 0 35 <| .E 1 36 (.bool ((nrmR i).2 != (0 : Int))) <| .nil) [(36, .bool ((nrmR i).2 != (0 : Int))), (3, .pointer (some ⟨b45, 0, none⟩)), (2, .bool false)] h128 (Kw.nil hB118) fun q130 h131 => ?_
  clear h128
  refine wpO_end ?_
  refine then_n ?_
  refine kC 36 ((nrmR i).2 != (0 : Int)) h131 (fun hc132 => ?_) (fun hc132 => ?_)
  ·
    refine kS ?_
    refine rp 2 ?_
    refine sC 0 37 h131 gok_none (c12 w116) ?_
    rintro _ w135 ⟨rfl, hb136⟩
    have hB137 := hB118.call hb136
    have ho138 := own_below ho119 hb136
    have ho139 := own_below ho120 hb136
    have ho140 := own_below ho121 hb136
    have ho141 := own_below ho122 hb136
    refine ⟨_, rfl, trivial, fun q133 h134 => ?_⟩
    clear h131 hB118 hb136
    refine b0 (.C 1 2 <| .nil) [(2, .bool true), (3, .pointer (some ⟨b45, 0, none⟩))] h134 (Kw.nil hB137) fun q142 h143 => ?_
    clear h134
    refine wpO_end ?_
    refine then_n ?_
    refine c_ret (by kernel_rfl) ?_
    refine then_r ?_
    refine ret1 (t := 2) (v := .bool true) h143 (by kernel_rfl) (by kernel_rfl) ?_
    exact ⟨ret_eq (rfl), hB137.bel⟩
  refine c_skip (by kernel_rfl) ?_
  refine then_n ?_
  refine kS ?_
  refine rp 8 ?_
  refine b0 (.S 0 39 1 0 16 <| .nil) [(39, insV (nrmP i).1 A33 cp34), (3, .pointer (some ⟨b45, 0, none⟩)), (2, .bool false)] h131 (Kw.nil hB118) fun q144 h145 => ?_
  clear h131
  refine sC 1 40 h145 gok_none (c36 (nrmP i).1 A33 cp34 _ w116 (by omega) ho120) ?_
  rintro _ w150 ⟨A148, cp149, rfl, ho154, hb151⟩
  have ho153 := own_base ho154 hB118.bel.size
  have hB152 := hB118.call hb151
  have ho155 := own_below ho119 hb151
  have ho156 := own_below ho120 hb151
  have ho157 := own_below ho121 hb151
  have ho158 := own_below ho122 hb151
  refine ⟨_, rfl, trivial, fun q146 h147 => ?_⟩
  clear h145 hB118 hb151
  refine b0 (.C 2 38 <| .E 3 41 (insV (nrmP (nrmP i).1).1 A148 cp149) <| .E 4 42 (.int .i64 ((nrmP (nrmP i).1).2)) <| .nil) [(42, .int .i64 ((nrmP (nrmP i).1).2)), (41, insV (nrmP (nrmP i).1).1 A148 cp149), (3, .pointer (some ⟨b45, 0, none⟩)), (2, .bool false)] h147 (Kw.nil hB152) fun q159 h160 => ?_
  clear h147
  refine sA 5 7 (fun b => .pointer (some ⟨b, 0, none⟩)) (.cells #[.string (⟨#[]⟩ : ByteArray), .int .i64 0, .string (⟨#[]⟩ : ByteArray), .string (⟨#[]⟩ : ByteArray), .int .i64 0, .string (⟨#[]⟩ : ByteArray), .int .i64 0, .int .i64 0, .int .i64 0, .int .i64 0, .int .i64 0, .bool false, .int .i64 0, .bool false, .bool false, .slice none 0 0] 29 (0, 0)) h160 gok_none hB152 (fun _ _ hq => trivial) (fun b163 w164 hB165 hN q161 h162 => ?_)
  have ho166 := own_below ho155 hN
  have ho167 := own_below ho156 hN
  have ho168 := own_below ho157 hN
  have ho169 := own_below ho158 hN
  have ho170 := own_below ho153 hN
  clear h160 hB152 hN
  refine sW 6 0 0 [(b163, .cells (insV (nrmP (nrmP i).1).1 A148 cp149).cells 29 (0, 0)), (b75, .cells (insV (nrmR i).1 A62 cp63).cells 24 (0, 0)), (b45, .cells (insV (nrmP i).1 A33 cp34).cells 29 (0, 0)), (b3, .cells (insV i A c).cells 24 (0, 0))] h162 gok_none hB165 (.inr fun _ _ => trivial) (fun w173 hB174 hT q171 h172 => ?_)
  clear h162 hB165
  have ho175 := own_turned ho166 hT (by kernel_rfl)
  have ho176 := own_turned ho167 hT (by kernel_rfl)
  have ho177 := own_turned ho168 hT (by kernel_rfl)
  have ho178 := own_turned ho169 hT (by kernel_rfl)
  have ho179 := own_turned ho170 hT (by kernel_rfl)
  clear hT
  refine b0 (.C 7 8 <| .nil) [(8, .int .i64 ((nrmP (nrmP i).1).2)), (7, .pointer (some ⟨b163, 0, none⟩)), (3, .pointer (some ⟨b45, 0, none⟩)), (2, .bool false)] h172 (Kw.nil hB174) fun q180 h181 => ?_
  clear h172
  refine wpO_end ?_
  refine then_n ?_
  refine kS ?_
  refine rp 16 ?_
  refine b0 (.C 0 43 <| .nil) [(43, .int .i64 ((nrmP (nrmP i).1).2)), (7, .pointer (some ⟨b163, 0, none⟩)), (3, .pointer (some ⟨b45, 0, none⟩)), (2, .bool false)] h181 (Kw.nil hB174) fun q182 h183 => ?_
  clear h181
  refine eE 1 44 (.binOp .eql 26 (.tmp 43) (.const (.int .i64 0)) 26) 4 (.bool ((nrmP (nrmP i).1).2 == (0 : Int))) h183 fun q184 h185 => ?_
  clear h183
  have h186 := h185.keep [(44, .bool true), (43, .int .i64 ((nrmP (nrmP i).1).2)), (7, .pointer (some ⟨b163, 0, none⟩)), (3, .pointer (some ⟨b45, 0, none⟩)), (2, .bool false)] ⟨look_bool rfl (by rw [(nrm_twice i hc132).1]; rfl), rfl, rfl, rfl, rfl, trivial⟩
  clear h185
  refine b1 45 (rfl : true = true) (.C 2 45 <| .S 3 46 2 0 16 <| .S 4 47 0 0 16 <| .nil) [(47, insV (nrmP (nrmP i).1).1 A148 cp149), (46, insV (nrmP i).1 A33 cp34), (45, .bool true), (3, .pointer (some ⟨b45, 0, none⟩)), (2, .bool false)] h186 (Kw.nil hB174) fun q187 h188 => ?_
  clear h186
  refine sC 5 48 (g := (some (2, true))) h188 (g1 45 (rfl : true = true)) (c24 (nrmP i).1 (nrmP (nrmP i).1).1 A33 A148 cp34 cp149 w173 (show (nrmP i).1.links.length ≤ 4611686018427387904 by omega) (own_rr ho176) (own_rr ho179)) ?_
  rintro _ w191 ⟨rfl, hb192⟩
  have hB193 := hB174.call hb192
  have ho194 := own_below ho175 hb192
  have ho195 := own_below ho176 hb192
  have ho196 := own_below ho177 hb192
  have ho197 := own_below ho178 hb192
  have ho198 := own_below ho179 hb192
  refine ⟨_, rfl, trivial, fun q189 h190 => ?_⟩
  clear h188 hB174 hb192
  have h199 := h190.keep [(48, .bool true), (47, insV (nrmP (nrmP i).1).1 A148 cp149), (46, insV (nrmP i).1 A33 cp34), (45, .bool true), (3, .pointer (some ⟨b45, 0, none⟩)), (2, .bool false)] ⟨look_bool rfl (by rw [(nrm_twice i hc132).1]; exact ins_refl _), rfl, rfl, rfl, rfl, rfl, trivial⟩
  clear h190
  refine b1 50 (rfl : true = true) (.E 6 49 (.bool true) <| .C 7 50 <| .S 8 51 2 0 16 <| .nil) [(51, insV (nrmP i).1 A33 cp34), (50, .bool true), (2, .bool false)] h199 (Kw.nil hB193) fun q200 h201 => ?_
  clear h199
  refine sC 9 52 (g := (some (7, true))) h201 (g1 50 (rfl : true = true)) (c14 (nrmP i).1 A33 cp34 w191 (show (nrmP i).1.links.length ≤ 4611686018427387904 by omega) (own_le ho195) (own_rr ho195)) ?_
  rintro _ w204 ⟨rfl, hb205⟩
  have hB206 := hB193.call hb205
  have ho207 := own_below ho194 hb205
  have ho208 := own_below ho195 hb205
  have ho209 := own_below ho196 hb205
  have ho210 := own_below ho197 hb205
  have ho211 := own_below ho198 hb205
  refine ⟨_, rfl, trivial, fun q202 h203 => ?_⟩
  clear h201 hB193 hb205
  refine eG 10 53 (.binOp .eql 26 (.tmp 52) (.const (.int .i64 0)) 26) 4 (7, true) (.bool (chkI (nrmP i).1 == (0 : Int))) (g1 50 (rfl : true = true)) h203 fun q212 h213 => ?_
  clear h203
  have h214 := h213.keep [(53, .bool true), (52, .int .i64 (chkI (nrmP i).1)), (51, insV (nrmP i).1 A33 cp34), (50, .bool true), (2, .bool false)] ⟨look_bool rfl (by rw [(nrm_twice i hc132).2]; rfl), rfl, rfl, rfl, rfl, trivial⟩
  clear h213
  refine b0 (.E 11 54 (.bool true) <| .C 12 55 <| .nil) [(55, .bool true), (2, .bool false)] h214 (Kw.nil hB206) fun q215 h216 => ?_
  clear h214
  refine sC 13 56 (g := (some (12, true))) h216 (g1 55 (rfl : true = true)) (c12 w204) ?_
  rintro _ w219 ⟨rfl, hb220⟩
  have hB221 := hB206.call hb220
  have ho222 := own_below ho207 hb220
  have ho223 := own_below ho208 hb220
  have ho224 := own_below ho209 hb220
  have ho225 := own_below ho210 hb220
  have ho226 := own_below ho211 hb220
  refine ⟨_, rfl, trivial, fun q217 h218 => ?_⟩
  clear h216 hB206 hb220
  refine b0 (.E 14 57 (.bool true) <| .C 15 2 <| .nil) [(2, .bool true)] h218 (Kw.nil hB221) fun q227 h228 => ?_
  clear h218
  refine wpO_end ?_
  refine then_n ?_
  refine c_ret (by kernel_rfl) ?_
  refine ret1 (t := 2) (v := .bool true) h228 (by kernel_rfl) (by kernel_rfl) ?_
  exact ⟨ret_eq (rfl), hB221.bel⟩

end Go.Proofs.YtljegdokbifoiaaDoor.Af
