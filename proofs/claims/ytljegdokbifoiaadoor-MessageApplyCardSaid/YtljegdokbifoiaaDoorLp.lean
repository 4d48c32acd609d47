/- The law of Apply. No condition but the arguments' own. -/
import Derived.Test.YtljegdokbifoiaaDoorAp
namespace Go.Proofs.YtljegdokbifoiaaDoor.Af
open Go.RowKit
set_option maxHeartbeats 4000000 in
set_option maxRecDepth 20000 in
theorem law8 (i : Ins) (A : Option Addr) (c : Nat) (m : Am) (w : World) (hr : Rd w A (lkc i.links)) : Calls Tryd.prog 8 #[insV i A c, amV m] w fun e w' => e = .returned (.bool true) ∧ Below w.heap.size w w' := by
  refine enter Tryd.func8 (by kernel_rfl) ?_ (by kernel_rfl)
  intro q0 h0
  replace h0 := h0.conv (l' := [(0, insV i A c), (1, amV m)]) rfl
  have hB := Bx.refl w
  refine kS ?_
  refine rp 3 ?_
  refine sA 0 2 (fun b => .pointer (some ⟨b, 0, none⟩)) (.cells (insV i A c).cells 24 (0, 0)) h0 gok_none hB (fun _ _ hq => trivial) (fun b3 w4 hB5 hN q1 h2 => ?_)
  clear h0 hB hN
  refine sA 1 3 (fun b => .pointer (some ⟨b, 0, none⟩)) (.cells (amV m).cells 40 (0, 0)) h2 gok_none hB5 (fun _ _ hq => trivial) (fun b8 w9 hB10 hN q6 h7 => ?_)
  clear h2 hB5 hN
  refine b0 (.C 2 4 <| .nil) [(4, .bool false), (3, .pointer (some ⟨b8, 0, none⟩)), (2, .pointer (some ⟨b3, 0, none⟩))] h7 (Kw.nil hB10) fun q11 h12 => ?_
  clear h7
  refine wpO_end ?_
  refine then_n ?_
  refine kS ?_
  refine kS ?_
  refine rp 4 ?_
  refine b0 (.C 0 9 <| .L 1 10 1 15 <| .E 2 11 (.int .i64 ((i.links.length : Nat) : Int)) <| .E 3 12 (.bool (decide ((40 : Int) < ((i.links.length : Nat) : Int)))) <| .nil) [(12, .bool (decide ((40 : Int) < ((i.links.length : Nat) : Int)))), (4, .bool false), (3, .pointer (some ⟨b8, 0, none⟩)), (2, .pointer (some ⟨b3, 0, none⟩))] h12 (Kw.nil hB10) fun q13 h14 => ?_
  clear h12
  refine wpO_end ?_
  refine then_n ?_
  refine kC 12 (decide ((40 : Int) < ((i.links.length : Nat) : Int))) h14 (fun hc15 => ?_) (fun hc15 => ?_)
  ·
    have hp16 : ((40 : Int) < ((i.links.length : Nat) : Int)) := of_decide_eq_true hc15
    refine kS ?_
    refine rp 2 ?_
    refine sC 0 13 h14 gok_none (c12 w9) ?_
    rintro _ w19 ⟨rfl, hb20⟩
    have hB21 := hB10.call hb20
    refine ⟨_, rfl, trivial, fun q17 h18 => ?_⟩
    clear h14 hB10 hb20
    refine b0 (.C 1 4 <| .nil) [(4, .bool true), (3, .pointer (some ⟨b8, 0, none⟩)), (2, .pointer (some ⟨b3, 0, none⟩))] h18 (Kw.nil hB21) fun q22 h23 => ?_
    clear h18
    refine wpO_end ?_
    refine then_n ?_
    refine c_ret (by kernel_rfl) ?_
    refine then_r ?_
    refine ret1 (t := 4) (v := .bool true) h23 (by kernel_rfl) (by kernel_rfl) ?_
    exact ⟨ret_eq (rfl), hB21.bel⟩
  have hp24 : ¬ ((40 : Int) < ((i.links.length : Nat) : Int)) := of_decide_eq_false hc15
  have hal := app_links_len i m
  refine c_skip (by kernel_rfl) ?_
  refine then_n ?_
  refine kS ?_
  refine c_cut (fun qa qw => ∃ (A48 : Option Addr) (c49 : Nat) (b64 : Nat), Fr 40 [(6, .int .i64 ((appP i m).2)), (5, .pointer (some ⟨b64, 0, none⟩)), (4, .bool false), (3, .pointer (some ⟨b8, 0, none⟩)), (2, .pointer (some ⟨b3, 0, none⟩))] qa ∧ Bx w [(b64, .cells (insV (appP i m).1 A48 c49).cells 29 (0, 0)), (b8, .cells (amV m).cells 40 (0, 0)), (b3, .cells (insV i A c).cells 24 (0, 0))] qw ∧ World.ownsRow qw w.heap.size 66 2 (.slice A48 ((appP i m).1.links.length) c49) ((appP i m).1.links.length) (lkc (appP i m).1.links)) ?_ ?_
  ·
    have hD77 := hB10.drew
    refine reg_plan (S := Bx w [(b8, .cells (amV m).cells 40 (0, 0)), (b3, .cells (insV i A c).cells 24 (0, 0))]) 11 [⟨0, true, 0, 4, 32768⟩, ⟨1, false, 1, 32768, 65536⟩, ⟨2, true, 0, 8, 131072⟩, ⟨3, false, 6, 131072, 262144⟩, ⟨4, false, 10, 327680, 524288⟩, ⟨5, true, 16, 524288, 16384⟩, ⟨6, true, 32, 16384, 1048576⟩, ⟨7, true, 32, 16384, 2097152⟩, ⟨8, false, 0, 0, 32⟩, ⟨9, false, 383, 1048608, 0⟩, ⟨10, true, 1023, 2097152, 64⟩] (.free ⟨0, true, 0, 4, 32768⟩ (.free ⟨2, true, 0, 8, 131072⟩ (.alt ⟨1, false, 1, 32768, 65536⟩ (.alt ⟨3, false, 6, 131072, 262144⟩ (.alt ⟨4, false, 10, 327680, 524288⟩ (.free ⟨5, true, 16, 524288, 16384⟩ (.free ⟨6, true, 32, 16384, 1048576⟩ (.free ⟨7, true, 32, 16384, 2097152⟩ (.alt ⟨8, false, 0, 0, 32⟩ (.alt ⟨9, false, 383, 1048608, 0⟩ (.free ⟨10, true, 1023, 2097152, 64⟩ (.done)) (.none)) (.none))))) (.alt ⟨8, false, 0, 0, 32⟩ (.alt ⟨4, false, 10, 327680, 524288⟩ (.free ⟨5, true, 16, 524288, 16384⟩ (.free ⟨6, true, 32, 16384, 1048576⟩ (.free ⟨7, true, 32, 16384, 2097152⟩ (.alt ⟨9, false, 383, 1048608, 0⟩ (.free ⟨10, true, 1023, 2097152, 64⟩ (.done)) (.none))))) (.none)) (.none))) (.alt ⟨8, false, 0, 0, 32⟩ (.alt ⟨3, false, 6, 131072, 262144⟩ (.alt ⟨4, false, 10, 327680, 524288⟩ (.free ⟨5, true, 16, 524288, 16384⟩ (.free ⟨6, true, 32, 16384, 1048576⟩ (.free ⟨7, true, 32, 16384, 2097152⟩ (.alt ⟨9, false, 383, 1048608, 0⟩ (.free ⟨10, true, 1023, 2097152, 64⟩ (.done)) (.none))))) (.none)) (.none)) (.none))) (.alt ⟨8, false, 0, 0, 32⟩ (.alt ⟨1, false, 1, 32768, 65536⟩ (.alt ⟨3, false, 6, 131072, 262144⟩ (.alt ⟨4, false, 10, 327680, 524288⟩ (.free ⟨5, true, 16, 524288, 16384⟩ (.free ⟨6, true, 32, 16384, 1048576⟩ (.free ⟨7, true, 32, 16384, 2097152⟩ (.alt ⟨9, false, 383, 1048608, 0⟩ (.free ⟨10, true, 1023, 2097152, 64⟩ (.done)) (.none))))) (.none)) (.none)) (.none)) (.none))))) (by kernel_rfl) (by kernel_rfl) (by kernel_rfl) (fun _ _ _ _ h => absurd h.2 (by simp)) hD77 ?_
    generalize World.drew w9 = w78 at hD77 ⊢
    refine p_free ?_
    refine fE 0 15 (.load 24 (.tmp 2)) 24 (insV i A c) h14 (hr := fun _ hS => r_loadS (b := b3) (vs := [.string i.ref, .int .i64 i.kind, .string i.sender, .string i.cpty, .int .i64 i.side, .string i.asset, .int .i64 i.qty, .int .i64 i.amt, .int .i64 i.tday, .int .i64 i.sday, .int .i64 i.prio, .bool i.part, .int .i64 i.minlot, .bool i.hold, .bool i.resv, .slice A i.links.length c]) hS 1 0 (by kernel_rfl) (by kernel_rfl) (by kernel_rfl)) fun q79 h80 => ?_
    clear h14
    refine wpO_end ?_
    refine cut_n ?_
    refine p_free ?_
    refine fE 2 17 (.load 40 (.tmp 3)) 40 (amV m) h80 (hr := fun _ hS => r_loadS (b := b8) (vs := [.bool m.hasAmt, .bool m.hasDay, .bool m.hasPrio, .bool m.hasPart, .int .i64 m.amt, .int .i64 m.sday, .int .i64 m.prio, .bool m.part, .int .i64 m.minlot]) hS 0 0 (by kernel_rfl) (by kernel_rfl) (by kernel_rfl)) fun q81 h82 => ?_
    clear h80
    refine wpO_end ?_
    refine cut_n ?_
    refine p_alt ?_ ?_
    ·
      refine sC 1 16 h82 gok_none (c13 i A c w78 (by omega) (hr.below hD77.bel)) ?_
      rintro _ w87 ⟨A85, c86, rfl, ho91, hb88⟩
      have ho90 := own_base ho91 hD77.bel.size
      have hB89 := hD77.call hb88
      refine ⟨_, rfl, hB89, fun q83 h84 => ?_⟩
      clear h82 hD77 hb88
      refine wpO_end ?_
      refine cut_n ?_
      refine p_alt ?_ ?_
      ·
        refine sC 3 18 h84 gok_none (c30 m w87) ?_
        rintro _ w94 ⟨rfl, hb95⟩
        have hB96 := hB89.call hb95
        have ho97 := own_below ho90 hb95
        refine ⟨_, rfl, hB96, fun q92 h93 => ?_⟩
        clear h84 hB89 hb95
        refine wpO_end ?_
        refine cut_n ?_
        refine p_alt ?_ ?_
        ·
          refine sC 4 19 h93 gok_none (c33 i m A85 c86 _ w94 (by omega) ho97) ?_
          rintro _ w102 ⟨A100, c101, rfl, ho106, hb103⟩
          have ho105 := own_base ho106 hB96.bel.size
          have hB104 := hB96.call hb103
          have ho107 := own_below ho97 hb103
          refine ⟨_, rfl, hB104, fun q98 h99 => ?_⟩
          clear h93 hB96 hb103
          refine wpO_end ?_
          refine cut_n ?_
          refine p_free ?_
          refine fE 5 14 (.move (.tmp 19)) 55 (.tuple #[insV (appP i m).1 A100 c101, .int .i64 ((appP i m).2)]) h99 fun q108 h109 => ?_
          clear h99
          refine wpO_end ?_
          refine cut_n ?_
          refine p_free ?_
          refine fE 6 20 (.extract (.tmp 14) 0) 29 (insV (appP i m).1 A100 c101) h109 fun q110 h111 => ?_
          clear h109
          refine wpO_end ?_
          refine cut_n ?_
          refine p_free ?_
          refine fE 7 21 (.extract (.tmp 14) 1) 26 (.int .i64 ((appP i m).2)) h111 fun q112 h113 => ?_
          clear h111
          refine wpO_end ?_
          refine cut_n ?_
          refine p_alt ?_ ?_
          ·
            refine sA 8 5 (fun b => .pointer (some ⟨b, 0, none⟩)) (.cells #[.string (⟨#[]⟩ : ByteArray), .int .i64 0, .string (⟨#[]⟩ : ByteArray), .string (⟨#[]⟩ : ByteArray), .int .i64 0, .string (⟨#[]⟩ : ByteArray), .int .i64 0, .int .i64 0, .int .i64 0, .int .i64 0, .int .i64 0, .bool false, .int .i64 0, .bool false, .bool false, .slice none 0 0] 29 (0, 0)) h113 gok_none hB104 (fun _ _ hq => hq.tail) (fun b116 w117 hB118 hN q114 h115 => ?_)
            have ho119 := own_below ho107 hN
            have ho120 := own_below ho105 hN
            clear h113 hB104 hN
            refine wpO_end ?_
            refine cut_n ?_
            refine p_alt ?_ ?_
            ·
              refine sW 9 0 0 [(b116, .cells (insV (appP i m).1 A100 c101).cells 29 (0, 0)), (b8, .cells (amV m).cells 40 (0, 0)), (b3, .cells (insV i A c).cells 24 (0, 0))] h115 gok_none hB118 (.inr fun _ hq => hq.tail) (fun w123 hB124 hT q121 h122 => ?_)
              clear h115 hB118
              have ho125 := own_turned ho119 hT (by kernel_rfl)
              have ho126 := own_turned ho120 hT (by kernel_rfl)
              clear hT
              refine wpO_end ?_
              refine cut_n ?_
              refine p_free ?_
              refine fE 10 6 (.assign (.tmp 21)) 26 (.int .i64 ((appP i m).2)) h122 fun q127 h128 => ?_
              clear h122
              refine wpO_end ?_
              refine cut_n ?_
              refine p_done ?_
              exact cut_n ⟨A100, c101, b116, h128.keep _ ⟨rfl, rfl, rfl, rfl, rfl, trivial⟩, hB124.sel [0, 1, 2] (by decide) rfl, ho126⟩
            exact p_none
          exact p_none
        refine p_alt ?_ ?_
        ·
          refine sA 8 5 (fun b => .pointer (some ⟨b, 0, none⟩)) (.cells #[.string (⟨#[]⟩ : ByteArray), .int .i64 0, .string (⟨#[]⟩ : ByteArray), .string (⟨#[]⟩ : ByteArray), .int .i64 0, .string (⟨#[]⟩ : ByteArray), .int .i64 0, .int .i64 0, .int .i64 0, .int .i64 0, .int .i64 0, .bool false, .int .i64 0, .bool false, .bool false, .slice none 0 0] 29 (0, 0)) h93 gok_none hB96 (fun _ _ hq => hq.tail) (fun b131 w132 hB133 hN q129 h130 => ?_)
          have ho134 := own_below ho97 hN
          clear h93 hB96 hN
          refine wpO_end ?_
          refine cut_n ?_
          refine p_alt ?_ ?_
          ·
            refine sC 4 19 h130 gok_none (c33 i m A85 c86 _ w132 (by omega) ho134) ?_
            rintro _ w139 ⟨A137, c138, rfl, ho143, hb140⟩
            have ho142 := own_base ho143 hB133.bel.size
            have hB141 := hB133.call hb140
            have ho144 := own_below ho134 hb140
            refine ⟨_, rfl, hB141.tail, fun q135 h136 => ?_⟩
            clear h130 hB133 hb140
            refine wpO_end ?_
            refine cut_n ?_
            refine p_free ?_
            refine fE 5 14 (.move (.tmp 19)) 55 (.tuple #[insV (appP i m).1 A137 c138, .int .i64 ((appP i m).2)]) h136 fun q145 h146 => ?_
            clear h136
            refine wpO_end ?_
            refine cut_n ?_
            refine p_free ?_
            refine fE 6 20 (.extract (.tmp 14) 0) 29 (insV (appP i m).1 A137 c138) h146 fun q147 h148 => ?_
            clear h146
            refine wpO_end ?_
            refine cut_n ?_
            refine p_free ?_
            refine fE 7 21 (.extract (.tmp 14) 1) 26 (.int .i64 ((appP i m).2)) h148 fun q149 h150 => ?_
            clear h148
            refine wpO_end ?_
            refine cut_n ?_
            refine p_alt ?_ ?_
            ·
              refine sW 9 0 0 [(b131, .cells (insV (appP i m).1 A137 c138).cells 29 (0, 0)), (b8, .cells (amV m).cells 40 (0, 0)), (b3, .cells (insV i A c).cells 24 (0, 0))] h150 gok_none hB141 (.inr fun _ hq => hq.tail) (fun w153 hB154 hT q151 h152 => ?_)
              clear h150 hB141
              have ho155 := own_turned ho144 hT (by kernel_rfl)
              have ho156 := own_turned ho142 hT (by kernel_rfl)
              clear hT
              refine wpO_end ?_
              refine cut_n ?_
              refine p_free ?_
              refine fE 10 6 (.assign (.tmp 21)) 26 (.int .i64 ((appP i m).2)) h152 fun q157 h158 => ?_
              clear h152
              refine wpO_end ?_
              refine cut_n ?_
              refine p_done ?_
              exact cut_n ⟨A137, c138, b131, h158.keep _ ⟨rfl, rfl, rfl, rfl, rfl, trivial⟩, hB154.sel [0, 1, 2] (by decide) rfl, ho156⟩
            exact p_none
          exact p_none
        exact p_none
      refine p_alt ?_ ?_
      ·
        refine sA 8 5 (fun b => .pointer (some ⟨b, 0, none⟩)) (.cells #[.string (⟨#[]⟩ : ByteArray), .int .i64 0, .string (⟨#[]⟩ : ByteArray), .string (⟨#[]⟩ : ByteArray), .int .i64 0, .string (⟨#[]⟩ : ByteArray), .int .i64 0, .int .i64 0, .int .i64 0, .int .i64 0, .int .i64 0, .bool false, .int .i64 0, .bool false, .bool false, .slice none 0 0] 29 (0, 0)) h84 gok_none hB89 (fun _ _ hq => hq.tail) (fun b161 w162 hB163 hN q159 h160 => ?_)
        have ho164 := own_below ho90 hN
        clear h84 hB89 hN
        refine wpO_end ?_
        refine cut_n ?_
        refine p_alt ?_ ?_
        ·
          refine sC 3 18 h160 gok_none (c30 m w162) ?_
          rintro _ w167 ⟨rfl, hb168⟩
          have hB169 := hB163.call hb168
          have ho170 := own_below ho164 hb168
          refine ⟨_, rfl, hB169.tail, fun q165 h166 => ?_⟩
          clear h160 hB163 hb168
          refine wpO_end ?_
          refine cut_n ?_
          refine p_alt ?_ ?_
          ·
            refine sC 4 19 h166 gok_none (c33 i m A85 c86 _ w167 (by omega) ho170) ?_
            rintro _ w175 ⟨A173, c174, rfl, ho179, hb176⟩
            have ho178 := own_base ho179 hB169.bel.size
            have hB177 := hB169.call hb176
            have ho180 := own_below ho170 hb176
            refine ⟨_, rfl, hB177.tail, fun q171 h172 => ?_⟩
            clear h166 hB169 hb176
            refine wpO_end ?_
            refine cut_n ?_
            refine p_free ?_
            refine fE 5 14 (.move (.tmp 19)) 55 (.tuple #[insV (appP i m).1 A173 c174, .int .i64 ((appP i m).2)]) h172 fun q181 h182 => ?_
            clear h172
            refine wpO_end ?_
            refine cut_n ?_
            refine p_free ?_
            refine fE 6 20 (.extract (.tmp 14) 0) 29 (insV (appP i m).1 A173 c174) h182 fun q183 h184 => ?_
            clear h182
            refine wpO_end ?_
            refine cut_n ?_
            refine p_free ?_
            refine fE 7 21 (.extract (.tmp 14) 1) 26 (.int .i64 ((appP i m).2)) h184 fun q185 h186 => ?_
            clear h184
            refine wpO_end ?_
            refine cut_n ?_
            refine p_alt ?_ ?_
            ·
              refine sW 9 0 0 [(b161, .cells (insV (appP i m).1 A173 c174).cells 29 (0, 0)), (b8, .cells (amV m).cells 40 (0, 0)), (b3, .cells (insV i A c).cells 24 (0, 0))] h186 gok_none hB177 (.inr fun _ hq => hq.tail) (fun w189 hB190 hT q187 h188 => ?_)
              clear h186 hB177
              have ho191 := own_turned ho180 hT (by kernel_rfl)
              have ho192 := own_turned ho178 hT (by kernel_rfl)
              clear hT
              refine wpO_end ?_
              refine cut_n ?_
              refine p_free ?_
              refine fE 10 6 (.assign (.tmp 21)) 26 (.int .i64 ((appP i m).2)) h188 fun q193 h194 => ?_
              clear h188
              refine wpO_end ?_
              refine cut_n ?_
              refine p_done ?_
              exact cut_n ⟨A173, c174, b161, h194.keep _ ⟨rfl, rfl, rfl, rfl, rfl, trivial⟩, hB190.sel [0, 1, 2] (by decide) rfl, ho192⟩
            exact p_none
          exact p_none
        exact p_none
      exact p_none
    refine p_alt ?_ ?_
    ·
      refine sA 8 5 (fun b => .pointer (some ⟨b, 0, none⟩)) (.cells #[.string (⟨#[]⟩ : ByteArray), .int .i64 0, .string (⟨#[]⟩ : ByteArray), .string (⟨#[]⟩ : ByteArray), .int .i64 0, .string (⟨#[]⟩ : ByteArray), .int .i64 0, .int .i64 0, .int .i64 0, .int .i64 0, .int .i64 0, .bool false, .int .i64 0, .bool false, .bool false, .slice none 0 0] 29 (0, 0)) h82 gok_none hD77 (fun _ _ hq => hq.tail) (fun b197 w198 hB199 hN q195 h196 => ?_)
      clear h82 hD77 hN
      refine wpO_end ?_
      refine cut_n ?_
      refine p_alt ?_ ?_
      ·
        refine sC 1 16 h196 gok_none (c13 i A c w198 (by omega) (hr.below hB199.bel)) ?_
        rintro _ w204 ⟨A202, c203, rfl, ho208, hb205⟩
        have ho207 := own_base ho208 hB199.bel.size
        have hB206 := hB199.call hb205
        refine ⟨_, rfl, hB206.tail, fun q200 h201 => ?_⟩
        clear h196 hB199 hb205
        refine wpO_end ?_
        refine cut_n ?_
        refine p_alt ?_ ?_
        ·
          refine sC 3 18 h201 gok_none (c30 m w204) ?_
          rintro _ w211 ⟨rfl, hb212⟩
          have hB213 := hB206.call hb212
          have ho214 := own_below ho207 hb212
          refine ⟨_, rfl, hB213.tail, fun q209 h210 => ?_⟩
          clear h201 hB206 hb212
          refine wpO_end ?_
          refine cut_n ?_
          refine p_alt ?_ ?_
          ·
            refine sC 4 19 h210 gok_none (c33 i m A202 c203 _ w211 (by omega) ho214) ?_
            rintro _ w219 ⟨A217, c218, rfl, ho223, hb220⟩
            have ho222 := own_base ho223 hB213.bel.size
            have hB221 := hB213.call hb220
            have ho224 := own_below ho214 hb220
            refine ⟨_, rfl, hB221.tail, fun q215 h216 => ?_⟩
            clear h210 hB213 hb220
            refine wpO_end ?_
            refine cut_n ?_
            refine p_free ?_
            refine fE 5 14 (.move (.tmp 19)) 55 (.tuple #[insV (appP i m).1 A217 c218, .int .i64 ((appP i m).2)]) h216 fun q225 h226 => ?_
            clear h216
            refine wpO_end ?_
            refine cut_n ?_
            refine p_free ?_
            refine fE 6 20 (.extract (.tmp 14) 0) 29 (insV (appP i m).1 A217 c218) h226 fun q227 h228 => ?_
            clear h226
            refine wpO_end ?_
            refine cut_n ?_
            refine p_free ?_
            refine fE 7 21 (.extract (.tmp 14) 1) 26 (.int .i64 ((appP i m).2)) h228 fun q229 h230 => ?_
            clear h228
            refine wpO_end ?_
            refine cut_n ?_
            refine p_alt ?_ ?_
            ·
              refine sW 9 0 0 [(b197, .cells (insV (appP i m).1 A217 c218).cells 29 (0, 0)), (b8, .cells (amV m).cells 40 (0, 0)), (b3, .cells (insV i A c).cells 24 (0, 0))] h230 gok_none hB221 (.inr fun _ hq => hq.tail) (fun w233 hB234 hT q231 h232 => ?_)
              clear h230 hB221
              have ho235 := own_turned ho224 hT (by kernel_rfl)
              have ho236 := own_turned ho222 hT (by kernel_rfl)
              clear hT
              refine wpO_end ?_
              refine cut_n ?_
              refine p_free ?_
              refine fE 10 6 (.assign (.tmp 21)) 26 (.int .i64 ((appP i m).2)) h232 fun q237 h238 => ?_
              clear h232
              refine wpO_end ?_
              refine cut_n ?_
              refine p_done ?_
              exact cut_n ⟨A217, c218, b197, h238.keep _ ⟨rfl, rfl, rfl, rfl, rfl, trivial⟩, hB234.sel [0, 1, 2] (by decide) rfl, ho236⟩
            exact p_none
          exact p_none
        exact p_none
      exact p_none
    exact p_none
  rintro q239 w240 ⟨A48, c49, b64, h241, hB242, ho243⟩
  refine then_n ?_
  refine kS ?_
  refine rp 9 ?_
  refine b0 (.S 0 23 2 0 16 <| .S 1 24 1 0 9 <| .nil) [(24, amV m), (23, insV i A c), (6, .int .i64 ((appP i m).2)), (5, .pointer (some ⟨b64, 0, none⟩)), (4, .bool false)] h241 (Kw.nil hB242) fun q244 h245 => ?_
  clear h241
  refine sC 2 25 h245 gok_none (c34 i m A c w240 (by omega) (hr.below hB242.bel)) ?_
  rintro _ w250 ⟨A248, c249, rfl, hr253, hb251⟩
  have hr254 := hr253 w hr
  have hB252 := hB242.call hb251
  have ho255 := own_below ho243 hb251
  refine ⟨_, rfl, trivial, fun q246 h247 => ?_⟩
  clear h245 hB242 hb251
  refine b0 (.C 3 22 <| .E 4 26 (insV (appR i m).1 A248 c249) <| .E 5 27 (.int .i64 ((appR i m).2)) <| .nil) [(27, .int .i64 ((appR i m).2)), (26, insV (appR i m).1 A248 c249), (6, .int .i64 ((appP i m).2)), (5, .pointer (some ⟨b64, 0, none⟩)), (4, .bool false)] h247 (Kw.nil hB252) fun q256 h257 => ?_
  clear h247
  refine sA 6 7 (fun b => .pointer (some ⟨b, 0, none⟩)) (.cells #[.string (⟨#[]⟩ : ByteArray), .int .i64 0, .string (⟨#[]⟩ : ByteArray), .string (⟨#[]⟩ : ByteArray), .int .i64 0, .string (⟨#[]⟩ : ByteArray), .int .i64 0, .int .i64 0, .int .i64 0, .int .i64 0, .int .i64 0, .bool false, .int .i64 0, .bool false, .bool false, .slice none 0 0] 24 (0, 0)) h257 gok_none hB252 (fun _ _ hq => trivial) (fun b260 w261 hB262 hN q258 h259 => ?_)
  have ho263 := own_below ho255 hN
  clear h257 hB252 hN
  refine sW 7 0 0 [(b260, .cells (insV (appR i m).1 A248 c249).cells 24 (0, 0)), (b64, .cells (insV (appP i m).1 A48 c49).cells 29 (0, 0)), (b8, .cells (amV m).cells 40 (0, 0)), (b3, .cells (insV i A c).cells 24 (0, 0))] h259 gok_none hB262 (.inr fun _ _ => trivial) (fun w266 hB267 hT q264 h265 => ?_)
  clear h259 hB262
  have ho268 := own_turned ho263 hT (by kernel_rfl)
  clear hT
  refine b0 (.C 8 8 <| .nil) [(8, .int .i64 ((appR i m).2)), (7, .pointer (some ⟨b260, 0, none⟩)), (6, .int .i64 ((appP i m).2)), (5, .pointer (some ⟨b64, 0, none⟩)), (4, .bool false)] h265 (Kw.nil hB267) fun q269 h270 => ?_
  clear h265
  refine wpO_end ?_
  refine then_n ?_
  refine kS ?_
  have hD271 := hB267.drew
  refine rd (Bx w [(b260, .cells (insV (appR i m).1 A248 c249).cells 24 (0, 0)), (b64, .cells (insV (appP i m).1 A48 c49).cells 29 (0, 0)), (b8, .cells (amV m).cells 40 (0, 0)), (b3, .cells (insV i A c).cells 24 (0, 0))]) 13 [⟨0, true, 0, 64, 268435456⟩, ⟨1, true, 0, 256, 536870912⟩, ⟨2, true, 3, 805306368, 1073741824⟩, ⟨3, true, 4, 1073741824, 2147483648⟩, ⟨4, true, 8, 2147483680, 4294967296⟩, ⟨6, true, 8, 2147483776, 17179869184⟩, ⟨5, false, 24, 6442450944, 8589934592⟩, ⟨7, false, 104, 27917287424, 34359738368⟩, ⟨8, true, 136, 36507222016, 68719476736⟩, ⟨9, true, 384, 68719476736, 137438953472⟩, ⟨10, false, 512, 137438953472, 274877906944⟩, ⟨11, true, 1536, 412316860416, 549755813888⟩, ⟨12, true, 4095, 549755813888, 16⟩] hD271 ?_
  have ho272 := own_drew ho268
  generalize World.drew w266 = w273 at hD271 ho272 ⊢
  refine d0 (.C 0 28 <| .C 1 29 <| .nil) [(29, .int .i64 ((appR i m).2)), (28, .int .i64 ((appP i m).2)), (7, .pointer (some ⟨b260, 0, none⟩)), (5, .pointer (some ⟨b64, 0, none⟩)), (4, .bool false)] h270 (fun _ hS => Kw.nil hS) fun q274 h275 => ?_
  clear h270
  refine fE 2 30 (.binOp .eql 3 (.tmp 28) (.tmp 29) 3) 4 (.bool ((appP i m).2 == (appR i m).2)) h275 fun q276 h277 => ?_
  clear h275
  have h278 := h277.keep [(30, .bool true), (29, .int .i64 ((appR i m).2)), (28, .int .i64 ((appP i m).2)), (7, .pointer (some ⟨b260, 0, none⟩)), (5, .pointer (some ⟨b64, 0, none⟩)), (4, .bool false)] ⟨look_bool rfl (by rw [app_ref]; exact beq_self_eq_true _), rfl, rfl, rfl, rfl, rfl, trivial⟩
  clear h277
  refine d1 31 (rfl : true = true) (.C 3 31 <| .S 4 32 1 0 16 <| .S 6 34 0 0 16 <| .nil) [(34, insV (appR i m).1 A248 c249), (32, insV (appP i m).1 A48 c49), (31, .bool true), (4, .bool false)] h278 (fun _ hS => Kw.nil hS) fun q279 h280 => ?_
  clear h278
  refine sC 5 33 (g := (some (3, true))) h280 (g1 31 (rfl : true = true)) (c35 (appP i m).1 A48 c49 w273 (by omega) (own_rr ho272)) ?_
  rintro _ w285 ⟨A283, c284, rfl, ho289, hb286⟩
  have ho288 := own_base ho289 hD271.bel.size
  have hB287 := hD271.call hb286
  have ho290 := own_below ho272 hb286
  refine ⟨_, rfl, hB287, fun q281 h282 => ?_⟩
  clear h280 hD271 hb286
  refine sC 7 35 (g := (some (3, true))) h282 (g1 31 (rfl : true = true)) (c25 (appP i m).1 (appR i m).1 A283 A248 c284 c249 w285 (show (appP i m).1.links.length ≤ 4611686018427387904 by omega) (own_rr ho288) (hr254.below hB287.bel)) ?_
  rintro _ w293 ⟨rfl, hb294⟩
  have hB295 := hB287.call hb294
  have ho296 := own_below ho290 hb294
  have ho297 := own_below ho288 hb294
  refine ⟨_, rfl, hB295, fun q291 h292 => ?_⟩
  clear h282 hB287 hb294
  have h298 := h292.keep [(35, .bool true), (33, insV (appP i m).1 A283 c284), (34, insV (appR i m).1 A248 c249), (32, insV (appP i m).1 A48 c49), (31, .bool true), (4, .bool false)] ⟨look_bool rfl (by rw [app_ref, ← same_eq]; exact ins_refl _), rfl, rfl, rfl, rfl, rfl, trivial⟩
  clear h292
  refine d0 (.E 8 36 (.bool true) <| .C 9 37 <| .nil) [(37, .bool true), (4, .bool false)] h298 (fun _ hS => Kw.nil hS) fun q299 h300 => ?_
  clear h298
  refine sC 10 38 (g := (some (9, true))) h300 (g1 37 (rfl : true = true)) (c12 w293) ?_
  rintro _ w303 ⟨rfl, hb304⟩
  have hB305 := hB295.call hb304
  have ho306 := own_below ho296 hb304
  have ho307 := own_below ho297 hb304
  refine ⟨_, rfl, hB305, fun q301 h302 => ?_⟩
  clear h300 hB295 hb304
  refine d0 (.E 11 39 (.bool true) <| .C 12 4 <| .nil) [(4, .bool true)] h302 (fun _ hS => Kw.nil hS) fun q308 h309 => ?_
  clear h302
  refine wpO_end ?_
  refine then_n ?_
  refine c_ret (by kernel_rfl) ?_
  refine ret1 (t := 4) (v := .bool true) h309 (by kernel_rfl) (by kernel_rfl) ?_
  exact ⟨ret_eq (rfl), hB305.bel⟩

end Go.Proofs.YtljegdokbifoiaaDoor.Af
