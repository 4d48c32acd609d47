/- The law of amending twice. No condition but the arguments' own. -/
import Derived.Test.YtljegdokbifoiaaDoorTw
import Derived.Test.YtljegdokbifoiaaDoorAp
namespace Go.Proofs.YtljegdokbifoiaaDoor.Af
open Go.RowKit
set_option maxHeartbeats 4000000 in
set_option maxRecDepth 20000 in
theorem law9 (i : Ins) (A : Option Addr) (c : Nat) (m : Am) (w : World) (hr : Rd w A (lkc i.links)) : Calls Tryd.prog 9 #[insV i A c, amV m] w fun e w' => e = .returned (.bool true) ∧ Below w.heap.size w w' := by
  refine enter Tryd.func9 (by kernel_rfl) ?_ (by kernel_rfl)
  intro q0 h0
  replace h0 := h0.conv (l' := [(0, insV i A c), (1, amV m)]) rfl
  have hB := Bx.refl w
  refine kS ?_
  refine rp 3 ?_
  refine sA 0 2 (fun b => .pointer (some ⟨b, 0, none⟩)) (.cells (insV i A c).cells 24 (0, 0)) h0 gok_none hB (fun _ _ hq => trivial) (fun b3 w4 hB5 hN q1 h2 => ?_)
  clear h0 hB hN
  refine sA 1 3 (fun b => .pointer (some ⟨b, 0, none⟩)) (.cells (amV m).cells 40 (0, 0)) h2 gok_none hB5 (fun _ _ hq => trivial) (fun b8 w9 hB10 hN q6 h7 => ?_)
  clear h2 hB5 hN
  refine b0 (.C 2 4 <| .nil) [(4, .bool false), (3, .pointer (some ⟨b8, 0, none⟩)), (2, .pointer (some ⟨b3, 0, none⟩))] h7 (Kw.nil hB10) fun q11 h12 => ?_
  clear h7
  refine wpO_end ?_
  refine then_n ?_
  refine kS ?_
  refine kS ?_
  refine rp 4 ?_
  refine b0 (.C 0 12 <| .L 1 13 1 15 <| .E 2 14 (.int .i64 ((i.links.length : Nat) : Int)) <| .E 3 15 (.bool (decide ((40 : Int) < ((i.links.length : Nat) : Int)))) <| .nil) [(15, .bool (decide ((40 : Int) < ((i.links.length : Nat) : Int)))), (4, .bool false), (3, .pointer (some ⟨b8, 0, none⟩)), (2, .pointer (some ⟨b3, 0, none⟩))] h12 (Kw.nil hB10) fun q13 h14 => ?_
  clear h12
  refine wpO_end ?_
  refine then_n ?_
  refine kC 15 (decide ((40 : Int) < ((i.links.length : Nat) : Int))) h14 (fun hc15 => ?_) (fun hc15 => ?_)
  ·
    have hp16 : ((40 : Int) < ((i.links.length : Nat) : Int)) := of_decide_eq_true hc15
    refine kS ?_
    refine rp 2 ?_
    refine sC 0 16 h14 gok_none (c12 w9) ?_
    rintro _ w19 ⟨rfl, hb20⟩
    have hB21 := hB10.call hb20
    refine ⟨_, rfl, trivial, fun q17 h18 => ?_⟩
    clear h14 hB10 hb20
    refine b0 (.C 1 4 <| .nil) [(4, .bool true), (3, .pointer (some ⟨b8, 0, none⟩)), (2, .pointer (some ⟨b3, 0, none⟩))] h18 (Kw.nil hB21) fun q22 h23 => ?_
    clear h18
    refine wpO_end ?_
    refine then_n ?_
    refine c_ret (by kernel_rfl) ?_
    refine then_r ?_
    refine ret1 (t := 4) (v := .bool true) h23 (by kernel_rfl) (by kernel_rfl) ?_
    exact ⟨ret_eq (rfl), hB21.bel⟩
  have hp24 : ¬ ((40 : Int) < ((i.links.length : Nat) : Int)) := of_decide_eq_false hc15
  have hal := app_links_len i m
  have hal2 := app_links_len (appP i m).1 m
  have hal3 := app_links_len (appP i m).1 (bck i m)
  refine c_skip (by kernel_rfl) ?_
  refine then_n ?_
  refine kS ?_
  refine c_cut (fun qa qw => ∃ (A48 : Option Addr) (c49 : Nat) (b64 : Nat), Fr 92 [(6, .int .i64 ((appP i m).2)), (5, .pointer (some ⟨b64, 0, none⟩)), (4, .bool false), (3, .pointer (some ⟨b8, 0, none⟩)), (2, .pointer (some ⟨b3, 0, none⟩))] qa ∧ Bx w [(b64, .cells (insV (appP i m).1 A48 c49).cells 29 (0, 0)), (b8, .cells (amV m).cells 40 (0, 0)), (b3, .cells (insV i A c).cells 24 (0, 0))] qw ∧ World.ownsRow qw w.heap.size 66 2 (.slice A48 ((appP i m).1.links.length) c49) ((appP i m).1.links.length) (lkc (appP i m).1.links)) ?_ ?_
  ·
    have hD77 := hB10.drew
    refine reg_plan (S := Bx w [(b8, .cells (amV m).cells 40 (0, 0)), (b3, .cells (insV i A c).cells 24 (0, 0))]) 11 [⟨0, true, 0, 4, 262144⟩, ⟨1, false, 1, 262144, 524288⟩, ⟨2, true, 0, 8, 1048576⟩, ⟨3, false, 6, 1048576, 2097152⟩, ⟨4, false, 10, 2621440, 4194304⟩, ⟨5, true, 16, 4194304, 131072⟩, ⟨6, true, 32, 131072, 8388608⟩, ⟨7, true, 32, 131072, 16777216⟩, ⟨8, false, 0, 0, 32⟩, ⟨9, false, 383, 8388640, 0⟩, ⟨10, true, 1023, 16777216, 64⟩] (.free ⟨0, true, 0, 4, 262144⟩ (.free ⟨2, true, 0, 8, 1048576⟩ (.alt ⟨1, false, 1, 262144, 524288⟩ (.alt ⟨3, false, 6, 1048576, 2097152⟩ (.alt ⟨4, false, 10, 2621440, 4194304⟩ (.free ⟨5, true, 16, 4194304, 131072⟩ (.free ⟨6, true, 32, 131072, 8388608⟩ (.free ⟨7, true, 32, 131072, 16777216⟩ (.alt ⟨8, false, 0, 0, 32⟩ (.alt ⟨9, false, 383, 8388640, 0⟩ (.free ⟨10, true, 1023, 16777216, 64⟩ (.done)) (.none)) (.none))))) (.alt ⟨8, false, 0, 0, 32⟩ (.alt ⟨4, false, 10, 2621440, 4194304⟩ (.free ⟨5, true, 16, 4194304, 131072⟩ (.free ⟨6, true, 32, 131072, 8388608⟩ (.free ⟨7, true, 32, 131072, 16777216⟩ (.alt ⟨9, false, 383, 8388640, 0⟩ (.free ⟨10, true, 1023, 16777216, 64⟩ (.done)) (.none))))) (.none)) (.none))) (.alt ⟨8, false, 0, 0, 32⟩ (.alt ⟨3, false, 6, 1048576, 2097152⟩ (.alt ⟨4, false, 10, 2621440, 4194304⟩ (.free ⟨5, true, 16, 4194304, 131072⟩ (.free ⟨6, true, 32, 131072, 8388608⟩ (.free ⟨7, true, 32, 131072, 16777216⟩ (.alt ⟨9, false, 383, 8388640, 0⟩ (.free ⟨10, true, 1023, 16777216, 64⟩ (.done)) (.none))))) (.none)) (.none)) (.none))) (.alt ⟨8, false, 0, 0, 32⟩ (.alt ⟨1, false, 1, 262144, 524288⟩ (.alt ⟨3, false, 6, 1048576, 2097152⟩ (.alt ⟨4, false, 10, 2621440, 4194304⟩ (.free ⟨5, true, 16, 4194304, 131072⟩ (.free ⟨6, true, 32, 131072, 8388608⟩ (.free ⟨7, true, 32, 131072, 16777216⟩ (.alt ⟨9, false, 383, 8388640, 0⟩ (.free ⟨10, true, 1023, 16777216, 64⟩ (.done)) (.none))))) (.none)) (.none)) (.none)) (.none))))) (by kernel_rfl) (by kernel_rfl) (by kernel_rfl) (fun _ _ _ _ h => absurd h.2 (by simp)) hD77 ?_
    generalize World.drew w9 = w78 at hD77 ⊢
    refine p_free ?_
    refine fE 0 18 (.load 24 (.tmp 2)) 24 (insV i A c) h14 (hr := fun _ hS => r_loadS (b := b3) (vs := [.string i.ref, .int .i64 i.kind, .string i.sender, .string i.cpty, .int .i64 i.side, .string i.asset, .int .i64 i.qty, .int .i64 i.amt, .int .i64 i.tday, .int .i64 i.sday, .int .i64 i.prio, .bool i.part, .int .i64 i.minlot, .bool i.hold, .bool i.resv, .slice A i.links.length c]) hS 1 0 (by kernel_rfl) (by kernel_rfl) (by kernel_rfl)) fun q79 h80 => ?_
    clear h14
    refine wpO_end ?_
    refine cut_n ?_
    refine p_free ?_
    refine fE 2 20 (.load 40 (.tmp 3)) 40 (amV m) h80 (hr := fun _ hS => r_loadS (b := b8) (vs := [.bool m.hasAmt, .bool m.hasDay, .bool m.hasPrio, .bool m.hasPart, .int .i64 m.amt, .int .i64 m.sday, .int .i64 m.prio, .bool m.part, .int .i64 m.minlot]) hS 0 0 (by kernel_rfl) (by kernel_rfl) (by kernel_rfl)) fun q81 h82 => ?_
    clear h80
    refine wpO_end ?_
    refine cut_n ?_
    refine p_alt ?_ ?_
    ·
      refine sC 1 19 h82 gok_none (c13 i A c w78 (by omega) (hr.below hD77.bel)) ?_
      rintro _ w87 ⟨A85, c86, rfl, ho91, hb88⟩
      have ho90 := own_base ho91 hD77.bel.size
      have hB89 := hD77.call hb88
      refine ⟨_, rfl, hB89, fun q83 h84 => ?_⟩
      clear h82 hD77 hb88
      refine wpO_end ?_
      refine cut_n ?_
      refine p_alt ?_ ?_
      ·
        refine sC 3 21 h84 gok_none (c30 m w87) ?_
        rintro _ w94 ⟨rfl, hb95⟩
        have hB96 := hB89.call hb95
        have ho97 := own_below ho90 hb95
        refine ⟨_, rfl, hB96, fun q92 h93 => ?_⟩
        clear h84 hB89 hb95
        refine wpO_end ?_
        refine cut_n ?_
        refine p_alt ?_ ?_
        ·
          refine sC 4 22 h93 gok_none (c33 i m A85 c86 _ w94 (by omega) ho97) ?_
          rintro _ w102 ⟨A100, c101, rfl, ho106, hb103⟩
          have ho105 := own_base ho106 hB96.bel.size
          have hB104 := hB96.call hb103
          have ho107 := own_below ho97 hb103
          refine ⟨_, rfl, hB104, fun q98 h99 => ?_⟩
          clear h93 hB96 hb103
          refine wpO_end ?_
          refine cut_n ?_
          refine p_free ?_
          refine fE 5 17 (.move (.tmp 22)) 55 (.tuple #[insV (appP i m).1 A100 c101, .int .i64 ((appP i m).2)]) h99 fun q108 h109 => ?_
          clear h99
          refine wpO_end ?_
          refine cut_n ?_
          refine p_free ?_
          refine fE 6 23 (.extract (.tmp 17) 0) 29 (insV (appP i m).1 A100 c101) h109 fun q110 h111 => ?_
          clear h109
          refine wpO_end ?_
          refine cut_n ?_
          refine p_free ?_
          refine fE 7 24 (.extract (.tmp 17) 1) 26 (.int .i64 ((appP i m).2)) h111 fun q112 h113 => ?_
          clear h111
          refine wpO_end ?_
          refine cut_n ?_
          refine p_alt ?_ ?_
          ·
            refine sA 8 5 (fun b => .pointer (some ⟨b, 0, none⟩)) (.cells #[.string (⟨#[]⟩ : ByteArray), .int .i64 0, .string (⟨#[]⟩ : ByteArray), .string (⟨#[]⟩ : ByteArray), .int .i64 0, .string (⟨#[]⟩ : ByteArray), .int .i64 0, .int .i64 0, .int .i64 0, .int .i64 0, .int .i64 0, .bool false, .int .i64 0, .bool false, .bool false, .slice none 0 0] 29 (0, 0)) h113 gok_none hB104 (fun _ _ hq => hq.tail) (fun b116 w117 hB118 hN q114 h115 => ?_)
            have ho119 := own_below ho107 hN
            have ho120 := own_below ho105 hN
            clear h113 hB104 hN
            refine wpO_end ?_
            refine cut_n ?_
            refine p_alt ?_ ?_
            ·
              refine sW 9 0 0 [(b116, .cells (insV (appP i m).1 A100 c101).cells 29 (0, 0)), (b8, .cells (amV m).cells 40 (0, 0)), (b3, .cells (insV i A c).cells 24 (0, 0))] h115 gok_none hB118 (.inr fun _ hq => hq.tail) (fun w123 hB124 hT q121 h122 => ?_)
              clear h115 hB118
              have ho125 := own_turned ho119 hT (by kernel_rfl)
              have ho126 := own_turned ho120 hT (by kernel_rfl)
              clear hT
              refine wpO_end ?_
              refine cut_n ?_
              refine p_free ?_
              refine fE 10 6 (.assign (.tmp 24)) 26 (.int .i64 ((appP i m).2)) h122 fun q127 h128 => ?_
              clear h122
              refine wpO_end ?_
              refine cut_n ?_
              refine p_done ?_
              exact cut_n ⟨A100, c101, b116, h128.keep _ ⟨rfl, rfl, rfl, rfl, rfl, trivial⟩, hB124.sel [0, 1, 2] (by decide) rfl, ho126⟩
            exact p_none
          exact p_none
        refine p_alt ?_ ?_
        ·
          refine sA 8 5 (fun b => .pointer (some ⟨b, 0, none⟩)) (.cells #[.string (⟨#[]⟩ : ByteArray), .int .i64 0, .string (⟨#[]⟩ : ByteArray), .string (⟨#[]⟩ : ByteArray), .int .i64 0, .string (⟨#[]⟩ : ByteArray), .int .i64 0, .int .i64 0, .int .i64 0, .int .i64 0, .int .i64 0, .bool false, .int .i64 0, .bool false, .bool false, .slice none 0 0] 29 (0, 0)) h93 gok_none hB96 (fun _ _ hq => hq.tail) (fun b131 w132 hB133 hN q129 h130 => ?_)
          have ho134 := own_below ho97 hN
          clear h93 hB96 hN
          refine wpO_end ?_
          refine cut_n ?_
          refine p_alt ?_ ?_
          ·
            refine sC 4 22 h130 gok_none (c33 i m A85 c86 _ w132 (by omega) ho134) ?_
            rintro _ w139 ⟨A137, c138, rfl, ho143, hb140⟩
            have ho142 := own_base ho143 hB133.bel.size
            have hB141 := hB133.call hb140
            have ho144 := own_below ho134 hb140
            refine ⟨_, rfl, hB141.tail, fun q135 h136 => ?_⟩
            clear h130 hB133 hb140
            refine wpO_end ?_
            refine cut_n ?_
            refine p_free ?_
            refine fE 5 17 (.move (.tmp 22)) 55 (.tuple #[insV (appP i m).1 A137 c138, .int .i64 ((appP i m).2)]) h136 fun q145 h146 => ?_
            clear h136
            refine wpO_end ?_
            refine cut_n ?_
            refine p_free ?_
            refine fE 6 23 (.extract (.tmp 17) 0) 29 (insV (appP i m).1 A137 c138) h146 fun q147 h148 => ?_
            clear h146
            refine wpO_end ?_
            refine cut_n ?_
            refine p_free ?_
            refine fE 7 24 (.extract (.tmp 17) 1) 26 (.int .i64 ((appP i m).2)) h148 fun q149 h150 => ?_
            clear h148
            refine wpO_end ?_
            refine cut_n ?_
            refine p_alt ?_ ?_
            ·
              refine sW 9 0 0 [(b131, .cells (insV (appP i m).1 A137 c138).cells 29 (0, 0)), (b8, .cells (amV m).cells 40 (0, 0)), (b3, .cells (insV i A c).cells 24 (0, 0))] h150 gok_none hB141 (.inr fun _ hq => hq.tail) (fun w153 hB154 hT q151 h152 => ?_)
              clear h150 hB141
              have ho155 := own_turned ho144 hT (by kernel_rfl)
              have ho156 := own_turned ho142 hT (by kernel_rfl)
              clear hT
              refine wpO_end ?_
              refine cut_n ?_
              refine p_free ?_
              refine fE 10 6 (.assign (.tmp 24)) 26 (.int .i64 ((appP i m).2)) h152 fun q157 h158 => ?_
              clear h152
              refine wpO_end ?_
              refine cut_n ?_
              refine p_done ?_
              exact cut_n ⟨A137, c138, b131, h158.keep _ ⟨rfl, rfl, rfl, rfl, rfl, trivial⟩, hB154.sel [0, 1, 2] (by decide) rfl, ho156⟩
            exact p_none
          exact p_none
        exact p_none
      refine p_alt ?_ ?_
      ·
        refine sA 8 5 (fun b => .pointer (some ⟨b, 0, none⟩)) (.cells #[.string (⟨#[]⟩ : ByteArray), .int .i64 0, .string (⟨#[]⟩ : ByteArray), .string (⟨#[]⟩ : ByteArray), .int .i64 0, .string (⟨#[]⟩ : ByteArray), .int .i64 0, .int .i64 0, .int .i64 0, .int .i64 0, .int .i64 0, .bool false, .int .i64 0, .bool false, .bool false, .slice none 0 0] 29 (0, 0)) h84 gok_none hB89 (fun _ _ hq => hq.tail) (fun b161 w162 hB163 hN q159 h160 => ?_)
        have ho164 := own_below ho90 hN
        clear h84 hB89 hN
        refine wpO_end ?_
        refine cut_n ?_
        refine p_alt ?_ ?_
        ·
          refine sC 3 21 h160 gok_none (c30 m w162) ?_
          rintro _ w167 ⟨rfl, hb168⟩
          have hB169 := hB163.call hb168
          have ho170 := own_below ho164 hb168
          refine ⟨_, rfl, hB169.tail, fun q165 h166 => ?_⟩
          clear h160 hB163 hb168
          refine wpO_end ?_
          refine cut_n ?_
          refine p_alt ?_ ?_
          ·
            refine sC 4 22 h166 gok_none (c33 i m A85 c86 _ w167 (by omega) ho170) ?_
            rintro _ w175 ⟨A173, c174, rfl, ho179, hb176⟩
            have ho178 := own_base ho179 hB169.bel.size
            have hB177 := hB169.call hb176
            have ho180 := own_below ho170 hb176
            refine ⟨_, rfl, hB177.tail, fun q171 h172 => ?_⟩
            clear h166 hB169 hb176
            refine wpO_end ?_
            refine cut_n ?_
            refine p_free ?_
            refine fE 5 17 (.move (.tmp 22)) 55 (.tuple #[insV (appP i m).1 A173 c174, .int .i64 ((appP i m).2)]) h172 fun q181 h182 => ?_
            clear h172
            refine wpO_end ?_
            refine cut_n ?_
            refine p_free ?_
            refine fE 6 23 (.extract (.tmp 17) 0) 29 (insV (appP i m).1 A173 c174) h182 fun q183 h184 => ?_
            clear h182
            refine wpO_end ?_
            refine cut_n ?_
            refine p_free ?_
            refine fE 7 24 (.extract (.tmp 17) 1) 26 (.int .i64 ((appP i m).2)) h184 fun q185 h186 => ?_
            clear h184
            refine wpO_end ?_
            refine cut_n ?_
            refine p_alt ?_ ?_
            ·
              refine sW 9 0 0 [(b161, .cells (insV (appP i m).1 A173 c174).cells 29 (0, 0)), (b8, .cells (amV m).cells 40 (0, 0)), (b3, .cells (insV i A c).cells 24 (0, 0))] h186 gok_none hB177 (.inr fun _ hq => hq.tail) (fun w189 hB190 hT q187 h188 => ?_)
              clear h186 hB177
              have ho191 := own_turned ho180 hT (by kernel_rfl)
              have ho192 := own_turned ho178 hT (by kernel_rfl)
              clear hT
              refine wpO_end ?_
              refine cut_n ?_
              refine p_free ?_
              refine fE 10 6 (.assign (.tmp 24)) 26 (.int .i64 ((appP i m).2)) h188 fun q193 h194 => ?_
              clear h188
              refine wpO_end ?_
              refine cut_n ?_
              refine p_done ?_
              exact cut_n ⟨A173, c174, b161, h194.keep _ ⟨rfl, rfl, rfl, rfl, rfl, trivial⟩, hB190.sel [0, 1, 2] (by decide) rfl, ho192⟩
            exact p_none
          exact p_none
        exact p_none
      exact p_none
    refine p_alt ?_ ?_
    ·
      refine sA 8 5 (fun b => .pointer (some ⟨b, 0, none⟩)) (.cells #[.string (⟨#[]⟩ : ByteArray), .int .i64 0, .string (⟨#[]⟩ : ByteArray), .string (⟨#[]⟩ : ByteArray), .int .i64 0, .string (⟨#[]⟩ : ByteArray), .int .i64 0, .int .i64 0, .int .i64 0, .int .i64 0, .int .i64 0, .bool false, .int .i64 0, .bool false, .bool false, .slice none 0 0] 29 (0, 0)) h82 gok_none hD77 (fun _ _ hq => hq.tail) (fun b197 w198 hB199 hN q195 h196 => ?_)
      clear h82 hD77 hN
      refine wpO_end ?_
      refine cut_n ?_
      refine p_alt ?_ ?_
      ·
        refine sC 1 19 h196 gok_none (c13 i A c w198 (by omega) (hr.below hB199.bel)) ?_
        rintro _ w204 ⟨A202, c203, rfl, ho208, hb205⟩
        have ho207 := own_base ho208 hB199.bel.size
        have hB206 := hB199.call hb205
        refine ⟨_, rfl, hB206.tail, fun q200 h201 => ?_⟩
        clear h196 hB199 hb205
        refine wpO_end ?_
        refine cut_n ?_
        refine p_alt ?_ ?_
        ·
          refine sC 3 21 h201 gok_none (c30 m w204) ?_
          rintro _ w211 ⟨rfl, hb212⟩
          have hB213 := hB206.call hb212
          have ho214 := own_below ho207 hb212
          refine ⟨_, rfl, hB213.tail, fun q209 h210 => ?_⟩
          clear h201 hB206 hb212
          refine wpO_end ?_
          refine cut_n ?_
          refine p_alt ?_ ?_
          ·
            refine sC 4 22 h210 gok_none (c33 i m A202 c203 _ w211 (by omega) ho214) ?_
            rintro _ w219 ⟨A217, c218, rfl, ho223, hb220⟩
            have ho222 := own_base ho223 hB213.bel.size
            have hB221 := hB213.call hb220
            have ho224 := own_below ho214 hb220
            refine ⟨_, rfl, hB221.tail, fun q215 h216 => ?_⟩
            clear h210 hB213 hb220
            refine wpO_end ?_
            refine cut_n ?_
            refine p_free ?_
            refine fE 5 17 (.move (.tmp 22)) 55 (.tuple #[insV (appP i m).1 A217 c218, .int .i64 ((appP i m).2)]) h216 fun q225 h226 => ?_
            clear h216
            refine wpO_end ?_
            refine cut_n ?_
            refine p_free ?_
            refine fE 6 23 (.extract (.tmp 17) 0) 29 (insV (appP i m).1 A217 c218) h226 fun q227 h228 => ?_
            clear h226
            refine wpO_end ?_
            refine cut_n ?_
            refine p_free ?_
            refine fE 7 24 (.extract (.tmp 17) 1) 26 (.int .i64 ((appP i m).2)) h228 fun q229 h230 => ?_
            clear h228
            refine wpO_end ?_
            refine cut_n ?_
            refine p_alt ?_ ?_
            ·
              refine sW 9 0 0 [(b197, .cells (insV (appP i m).1 A217 c218).cells 29 (0, 0)), (b8, .cells (amV m).cells 40 (0, 0)), (b3, .cells (insV i A c).cells 24 (0, 0))] h230 gok_none hB221 (.inr fun _ hq => hq.tail) (fun w233 hB234 hT q231 h232 => ?_)
              clear h230 hB221
              have ho235 := own_turned ho224 hT (by kernel_rfl)
              have ho236 := own_turned ho222 hT (by kernel_rfl)
              clear hT
              refine wpO_end ?_
              refine cut_n ?_
              refine p_free ?_
              refine fE 10 6 (.assign (.tmp 24)) 26 (.int .i64 ((appP i m).2)) h232 fun q237 h238 => ?_
              clear h232
              refine wpO_end ?_
              refine cut_n ?_
              refine p_done ?_
              exact cut_n ⟨A217, c218, b197, h238.keep _ ⟨rfl, rfl, rfl, rfl, rfl, trivial⟩, hB234.sel [0, 1, 2] (by decide) rfl, ho236⟩
            exact p_none
          exact p_none
        exact p_none
      exact p_none
    exact p_none
  rintro q239 w240 ⟨A48, c49, b64, h241, hB242, ho243⟩
  refine then_n ?_
  refine kS ?_
  refine kS ?_
  refine rp 2 ?_
  refine b0 (.C 0 25 <| .E 1 26 (.bool ((appP i m).2 != (0 : Int))) <| .nil) [(26, .bool ((appP i m).2 != (0 : Int))), (5, .pointer (some ⟨b64, 0, none⟩)), (4, .bool false), (3, .pointer (some ⟨b8, 0, none⟩)), (2, .pointer (some ⟨b3, 0, none⟩))] h241 (Kw.nil hB242) fun q244 h245 => ?_
  clear h241
  refine wpO_end ?_
  refine then_n ?_
  refine kC 26 ((appP i m).2 != (0 : Int)) h245 (fun hc246 => ?_) (fun hc246 => ?_)
  ·
    refine kS ?_
    refine rp 2 ?_
    refine sC 0 27 h245 gok_none (c12 w240) ?_
    rintro _ w249 ⟨rfl, hb250⟩
    have hB251 := hB242.call hb250
    have ho252 := own_below ho243 hb250
    refine ⟨_, rfl, trivial, fun q247 h248 => ?_⟩
    clear h245 hB242 hb250
    refine b0 (.C 1 4 <| .nil) [(4, .bool true), (5, .pointer (some ⟨b64, 0, none⟩)), (3, .pointer (some ⟨b8, 0, none⟩)), (2, .pointer (some ⟨b3, 0, none⟩))] h248 (Kw.nil hB251) fun q253 h254 => ?_
    clear h248
    refine wpO_end ?_
    refine then_n ?_
    refine c_ret (by kernel_rfl) ?_
    refine then_r ?_
    refine ret1 (t := 4) (v := .bool true) h254 (by kernel_rfl) (by kernel_rfl) ?_
    exact ⟨ret_eq (rfl), hB251.bel⟩
  refine c_skip (by kernel_rfl) ?_
  refine then_n ?_
  refine kS ?_
  refine c_cut (fun qa qw => ∃ (A270 : Option Addr) (c271 : Nat) (b286 : Nat), Fr 92 [(8, .int .i64 ((appP (appP i m).1 m).2)), (7, .pointer (some ⟨b286, 0, none⟩)), (5, .pointer (some ⟨b64, 0, none⟩)), (4, .bool false), (3, .pointer (some ⟨b8, 0, none⟩)), (2, .pointer (some ⟨b3, 0, none⟩))] qa ∧ Bx w [(b286, .cells (insV (appP (appP i m).1 m).1 A270 c271).cells 29 (0, 0)), (b64, .cells (insV (appP i m).1 A48 c49).cells 29 (0, 0)), (b8, .cells (amV m).cells 40 (0, 0)), (b3, .cells (insV i A c).cells 24 (0, 0))] qw ∧ World.ownsRow qw w.heap.size 66 2 (.slice A48 ((appP i m).1.links.length) c49) ((appP i m).1.links.length) (lkc (appP i m).1.links) ∧ World.ownsRow qw w.heap.size 66 2 (.slice A270 ((appP (appP i m).1 m).1.links.length) c271) ((appP (appP i m).1 m).1.links.length) (lkc (appP (appP i m).1 m).1.links)) ?_ ?_
  ·
    have hD299 := hB242.drew
    refine reg_plan (S := Bx w [(b64, .cells (insV (appP i m).1 A48 c49).cells 29 (0, 0)), (b8, .cells (amV m).cells 40 (0, 0)), (b3, .cells (insV i A c).cells 24 (0, 0))]) 10 [⟨0, true, 0, 32, 536870912⟩, ⟨1, true, 0, 8, 1073741824⟩, ⟨2, false, 2, 1073741824, 2147483648⟩, ⟨3, false, 5, 2684354560, 4294967296⟩, ⟨4, true, 8, 4294967296, 268435456⟩, ⟨5, true, 16, 268435456, 8589934592⟩, ⟨6, true, 16, 268435456, 17179869184⟩, ⟨7, false, 0, 0, 128⟩, ⟨8, false, 191, 8589934720, 0⟩, ⟨9, true, 511, 17179869184, 256⟩] (.free ⟨0, true, 0, 32, 536870912⟩ (.free ⟨1, true, 0, 8, 1073741824⟩ (.alt ⟨2, false, 2, 1073741824, 2147483648⟩ (.alt ⟨3, false, 5, 2684354560, 4294967296⟩ (.free ⟨4, true, 8, 4294967296, 268435456⟩ (.free ⟨5, true, 16, 268435456, 8589934592⟩ (.free ⟨6, true, 16, 268435456, 17179869184⟩ (.alt ⟨7, false, 0, 0, 128⟩ (.alt ⟨8, false, 191, 8589934720, 0⟩ (.free ⟨9, true, 511, 17179869184, 256⟩ (.done)) (.none)) (.none))))) (.alt ⟨7, false, 0, 0, 128⟩ (.alt ⟨3, false, 5, 2684354560, 4294967296⟩ (.free ⟨4, true, 8, 4294967296, 268435456⟩ (.free ⟨5, true, 16, 268435456, 8589934592⟩ (.free ⟨6, true, 16, 268435456, 17179869184⟩ (.alt ⟨8, false, 191, 8589934720, 0⟩ (.free ⟨9, true, 511, 17179869184, 256⟩ (.done)) (.none))))) (.none)) (.none))) (.alt ⟨7, false, 0, 0, 128⟩ (.alt ⟨2, false, 2, 1073741824, 2147483648⟩ (.alt ⟨3, false, 5, 2684354560, 4294967296⟩ (.free ⟨4, true, 8, 4294967296, 268435456⟩ (.free ⟨5, true, 16, 268435456, 8589934592⟩ (.free ⟨6, true, 16, 268435456, 17179869184⟩ (.alt ⟨8, false, 191, 8589934720, 0⟩ (.free ⟨9, true, 511, 17179869184, 256⟩ (.done)) (.none))))) (.none)) (.none)) (.none))))) (by kernel_rfl) (by kernel_rfl) (by kernel_rfl) (fun _ _ _ _ h => absurd h.2 (by simp)) hD299 ?_
    have ho300 := own_drew ho243
    generalize World.drew w240 = w301 at hD299 ho300 ⊢
    refine p_free ?_
    refine fE 0 29 (.load 29 (.tmp 5)) 29 (insV (appP i m).1 A48 c49) h245 (hr := fun _ hS => r_loadS (b := b64) (vs := [.string ((appP i m).1.ref), .int .i64 ((appP i m).1.kind), .string ((appP i m).1.sender), .string ((appP i m).1.cpty), .int .i64 ((appP i m).1.side), .string ((appP i m).1.asset), .int .i64 ((appP i m).1.qty), .int .i64 ((appP i m).1.amt), .int .i64 ((appP i m).1.tday), .int .i64 ((appP i m).1.sday), .int .i64 ((appP i m).1.prio), .bool ((appP i m).1.part), .int .i64 ((appP i m).1.minlot), .bool ((appP i m).1.hold), .bool ((appP i m).1.resv), .slice A48 ((appP i m).1.links.length) c49]) hS 0 0 (by kernel_rfl) (by kernel_rfl) (by kernel_rfl)) fun q302 h303 => ?_
    clear h245
    refine wpO_end ?_
    refine cut_n ?_
    refine p_free ?_
    refine fE 1 30 (.load 40 (.tmp 3)) 40 (amV m) h303 (hr := fun _ hS => r_loadS (b := b8) (vs := [.bool m.hasAmt, .bool m.hasDay, .bool m.hasPrio, .bool m.hasPart, .int .i64 m.amt, .int .i64 m.sday, .int .i64 m.prio, .bool m.part, .int .i64 m.minlot]) hS 1 0 (by kernel_rfl) (by kernel_rfl) (by kernel_rfl)) fun q304 h305 => ?_
    clear h303
    refine wpO_end ?_
    refine cut_n ?_
    refine p_alt ?_ ?_
    ·
      refine sC 2 31 h305 gok_none (c30 m w301) ?_
      rintro _ w308 ⟨rfl, hb309⟩
      have hB310 := hD299.call hb309
      have ho311 := own_below ho300 hb309
      refine ⟨_, rfl, hB310, fun q306 h307 => ?_⟩
      clear h305 hD299 hb309
      refine wpO_end ?_
      refine cut_n ?_
      refine p_alt ?_ ?_
      ·
        refine sC 3 32 h307 gok_none (c33 (appP i m).1 m A48 c49 _ w308 (by omega) ho311) ?_
        rintro _ w316 ⟨A314, c315, rfl, ho320, hb317⟩
        have ho319 := own_base ho320 hB310.bel.size
        have hB318 := hB310.call hb317
        have ho321 := own_below ho311 hb317
        refine ⟨_, rfl, hB318, fun q312 h313 => ?_⟩
        clear h307 hB310 hb317
        refine wpO_end ?_
        refine cut_n ?_
        refine p_free ?_
        refine fE 4 28 (.move (.tmp 32)) 55 (.tuple #[insV (appP (appP i m).1 m).1 A314 c315, .int .i64 ((appP (appP i m).1 m).2)]) h313 fun q322 h323 => ?_
        clear h313
        refine wpO_end ?_
        refine cut_n ?_
        refine p_free ?_
        refine fE 5 33 (.extract (.tmp 28) 0) 29 (insV (appP (appP i m).1 m).1 A314 c315) h323 fun q324 h325 => ?_
        clear h323
        refine wpO_end ?_
        refine cut_n ?_
        refine p_free ?_
        refine fE 6 34 (.extract (.tmp 28) 1) 26 (.int .i64 ((appP (appP i m).1 m).2)) h325 fun q326 h327 => ?_
        clear h325
        refine wpO_end ?_
        refine cut_n ?_
        refine p_alt ?_ ?_
        ·
          refine sA 7 7 (fun b => .pointer (some ⟨b, 0, none⟩)) (.cells #[.string (⟨#[]⟩ : ByteArray), .int .i64 0, .string (⟨#[]⟩ : ByteArray), .string (⟨#[]⟩ : ByteArray), .int .i64 0, .string (⟨#[]⟩ : ByteArray), .int .i64 0, .int .i64 0, .int .i64 0, .int .i64 0, .int .i64 0, .bool false, .int .i64 0, .bool false, .bool false, .slice none 0 0] 29 (0, 0)) h327 gok_none hB318 (fun _ _ hq => hq.tail) (fun b330 w331 hB332 hN q328 h329 => ?_)
          have ho333 := own_below ho321 hN
          have ho334 := own_below ho319 hN
          clear h327 hB318 hN
          refine wpO_end ?_
          refine cut_n ?_
          refine p_alt ?_ ?_
          ·
            refine sW 8 0 0 [(b330, .cells (insV (appP (appP i m).1 m).1 A314 c315).cells 29 (0, 0)), (b64, .cells (insV (appP i m).1 A48 c49).cells 29 (0, 0)), (b8, .cells (amV m).cells 40 (0, 0)), (b3, .cells (insV i A c).cells 24 (0, 0))] h329 gok_none hB332 (.inr fun _ hq => hq.tail) (fun w337 hB338 hT q335 h336 => ?_)
            clear h329 hB332
            have ho339 := own_turned ho333 hT (by kernel_rfl)
            have ho340 := own_turned ho334 hT (by kernel_rfl)
            clear hT
            refine wpO_end ?_
            refine cut_n ?_
            refine p_free ?_
            refine fE 9 8 (.assign (.tmp 34)) 26 (.int .i64 ((appP (appP i m).1 m).2)) h336 fun q341 h342 => ?_
            clear h336
            refine wpO_end ?_
            refine cut_n ?_
            refine p_done ?_
            exact cut_n ⟨A314, c315, b330, h342.keep _ ⟨rfl, rfl, rfl, rfl, rfl, rfl, trivial⟩, hB338.sel [0, 1, 2, 3] (by decide) rfl, ho339, ho340⟩
          exact p_none
        exact p_none
      refine p_alt ?_ ?_
      ·
        refine sA 7 7 (fun b => .pointer (some ⟨b, 0, none⟩)) (.cells #[.string (⟨#[]⟩ : ByteArray), .int .i64 0, .string (⟨#[]⟩ : ByteArray), .string (⟨#[]⟩ : ByteArray), .int .i64 0, .string (⟨#[]⟩ : ByteArray), .int .i64 0, .int .i64 0, .int .i64 0, .int .i64 0, .int .i64 0, .bool false, .int .i64 0, .bool false, .bool false, .slice none 0 0] 29 (0, 0)) h307 gok_none hB310 (fun _ _ hq => hq.tail) (fun b345 w346 hB347 hN q343 h344 => ?_)
        have ho348 := own_below ho311 hN
        clear h307 hB310 hN
        refine wpO_end ?_
        refine cut_n ?_
        refine p_alt ?_ ?_
        ·
          refine sC 3 32 h344 gok_none (c33 (appP i m).1 m A48 c49 _ w346 (by omega) ho348) ?_
          rintro _ w353 ⟨A351, c352, rfl, ho357, hb354⟩
          have ho356 := own_base ho357 hB347.bel.size
          have hB355 := hB347.call hb354
          have ho358 := own_below ho348 hb354
          refine ⟨_, rfl, hB355.tail, fun q349 h350 => ?_⟩
          clear h344 hB347 hb354
          refine wpO_end ?_
          refine cut_n ?_
          refine p_free ?_
          refine fE 4 28 (.move (.tmp 32)) 55 (.tuple #[insV (appP (appP i m).1 m).1 A351 c352, .int .i64 ((appP (appP i m).1 m).2)]) h350 fun q359 h360 => ?_
          clear h350
          refine wpO_end ?_
          refine cut_n ?_
          refine p_free ?_
          refine fE 5 33 (.extract (.tmp 28) 0) 29 (insV (appP (appP i m).1 m).1 A351 c352) h360 fun q361 h362 => ?_
          clear h360
          refine wpO_end ?_
          refine cut_n ?_
          refine p_free ?_
          refine fE 6 34 (.extract (.tmp 28) 1) 26 (.int .i64 ((appP (appP i m).1 m).2)) h362 fun q363 h364 => ?_
          clear h362
          refine wpO_end ?_
          refine cut_n ?_
          refine p_alt ?_ ?_
          ·
            refine sW 8 0 0 [(b345, .cells (insV (appP (appP i m).1 m).1 A351 c352).cells 29 (0, 0)), (b64, .cells (insV (appP i m).1 A48 c49).cells 29 (0, 0)), (b8, .cells (amV m).cells 40 (0, 0)), (b3, .cells (insV i A c).cells 24 (0, 0))] h364 gok_none hB355 (.inr fun _ hq => hq.tail) (fun w367 hB368 hT q365 h366 => ?_)
            clear h364 hB355
            have ho369 := own_turned ho358 hT (by kernel_rfl)
            have ho370 := own_turned ho356 hT (by kernel_rfl)
            clear hT
            refine wpO_end ?_
            refine cut_n ?_
            refine p_free ?_
            refine fE 9 8 (.assign (.tmp 34)) 26 (.int .i64 ((appP (appP i m).1 m).2)) h366 fun q371 h372 => ?_
            clear h366
            refine wpO_end ?_
            refine cut_n ?_
            refine p_done ?_
            exact cut_n ⟨A351, c352, b345, h372.keep _ ⟨rfl, rfl, rfl, rfl, rfl, rfl, trivial⟩, hB368.sel [0, 1, 2, 3] (by decide) rfl, ho369, ho370⟩
          exact p_none
        exact p_none
      exact p_none
    refine p_alt ?_ ?_
    ·
      refine sA 7 7 (fun b => .pointer (some ⟨b, 0, none⟩)) (.cells #[.string (⟨#[]⟩ : ByteArray), .int .i64 0, .string (⟨#[]⟩ : ByteArray), .string (⟨#[]⟩ : ByteArray), .int .i64 0, .string (⟨#[]⟩ : ByteArray), .int .i64 0, .int .i64 0, .int .i64 0, .int .i64 0, .int .i64 0, .bool false, .int .i64 0, .bool false, .bool false, .slice none 0 0] 29 (0, 0)) h305 gok_none hD299 (fun _ _ hq => hq.tail) (fun b375 w376 hB377 hN q373 h374 => ?_)
      have ho378 := own_below ho300 hN
      clear h305 hD299 hN
      refine wpO_end ?_
      refine cut_n ?_
      refine p_alt ?_ ?_
      ·
        refine sC 2 31 h374 gok_none (c30 m w376) ?_
        rintro _ w381 ⟨rfl, hb382⟩
        have hB383 := hB377.call hb382
        have ho384 := own_below ho378 hb382
        refine ⟨_, rfl, hB383.tail, fun q379 h380 => ?_⟩
        clear h374 hB377 hb382
        refine wpO_end ?_
        refine cut_n ?_
        refine p_alt ?_ ?_
        ·
          refine sC 3 32 h380 gok_none (c33 (appP i m).1 m A48 c49 _ w381 (by omega) ho384) ?_
          rintro _ w389 ⟨A387, c388, rfl, ho393, hb390⟩
          have ho392 := own_base ho393 hB383.bel.size
          have hB391 := hB383.call hb390
          have ho394 := own_below ho384 hb390
          refine ⟨_, rfl, hB391.tail, fun q385 h386 => ?_⟩
          clear h380 hB383 hb390
          refine wpO_end ?_
          refine cut_n ?_
          refine p_free ?_
          refine fE 4 28 (.move (.tmp 32)) 55 (.tuple #[insV (appP (appP i m).1 m).1 A387 c388, .int .i64 ((appP (appP i m).1 m).2)]) h386 fun q395 h396 => ?_
          clear h386
          refine wpO_end ?_
          refine cut_n ?_
          refine p_free ?_
          refine fE 5 33 (.extract (.tmp 28) 0) 29 (insV (appP (appP i m).1 m).1 A387 c388) h396 fun q397 h398 => ?_
          clear h396
          refine wpO_end ?_
          refine cut_n ?_
          refine p_free ?_
          refine fE 6 34 (.extract (.tmp 28) 1) 26 (.int .i64 ((appP (appP i m).1 m).2)) h398 fun q399 h400 => ?_
          clear h398
          refine wpO_end ?_
          refine cut_n ?_
          refine p_alt ?_ ?_
          ·
            refine sW 8 0 0 [(b375, .cells (insV (appP (appP i m).1 m).1 A387 c388).cells 29 (0, 0)), (b64, .cells (insV (appP i m).1 A48 c49).cells 29 (0, 0)), (b8, .cells (amV m).cells 40 (0, 0)), (b3, .cells (insV i A c).cells 24 (0, 0))] h400 gok_none hB391 (.inr fun _ hq => hq.tail) (fun w403 hB404 hT q401 h402 => ?_)
            clear h400 hB391
            have ho405 := own_turned ho394 hT (by kernel_rfl)
            have ho406 := own_turned ho392 hT (by kernel_rfl)
            clear hT
            refine wpO_end ?_
            refine cut_n ?_
            refine p_free ?_
            refine fE 9 8 (.assign (.tmp 34)) 26 (.int .i64 ((appP (appP i m).1 m).2)) h402 fun q407 h408 => ?_
            clear h402
            refine wpO_end ?_
            refine cut_n ?_
            refine p_done ?_
            exact cut_n ⟨A387, c388, b375, h408.keep _ ⟨rfl, rfl, rfl, rfl, rfl, rfl, trivial⟩, hB404.sel [0, 1, 2, 3] (by decide) rfl, ho405, ho406⟩
          exact p_none
        exact p_none
      exact p_none
    exact p_none
  rintro q409 w410 ⟨A270, c271, b286, h411, hB412, ho413, ho414⟩
  refine then_n ?_
  refine kS ?_
  refine kS ?_
  refine rp 8 ?_
  refine b0 (.C 0 35 <| .nil) [(35, .int .i64 ((appP (appP i m).1 m).2)), (7, .pointer (some ⟨b286, 0, none⟩)), (5, .pointer (some ⟨b64, 0, none⟩)), (4, .bool false), (3, .pointer (some ⟨b8, 0, none⟩)), (2, .pointer (some ⟨b3, 0, none⟩))] h411 (Kw.nil hB412) fun q415 h416 => ?_
  clear h411
  refine eE 1 36 (.binOp .neq 26 (.tmp 35) (.const (.int .i64 0)) 26) 4 (.bool ((appP (appP i m).1 m).2 != (0 : Int))) h416 fun q417 h418 => ?_
  clear h416
  have h419 := h418.keep [(36, .bool false), (35, .int .i64 ((appP (appP i m).1 m).2)), (7, .pointer (some ⟨b286, 0, none⟩)), (5, .pointer (some ⟨b64, 0, none⟩)), (4, .bool false), (3, .pointer (some ⟨b8, 0, none⟩)), (2, .pointer (some ⟨b3, 0, none⟩))] ⟨look_bool rfl (tw1 i m hc246), rfl, rfl, rfl, rfl, rfl, rfl, trivial⟩
  clear h418
  refine b1 37 (rfl : false = false) (.C 2 37 <| .S 3 38 1 0 16 <| .S 4 39 0 0 16 <| .nil) [(39, insV (appP (appP i m).1 m).1 A270 c271), (38, insV (appP i m).1 A48 c49), (37, .bool false), (5, .pointer (some ⟨b64, 0, none⟩)), (4, .bool false), (3, .pointer (some ⟨b8, 0, none⟩)), (2, .pointer (some ⟨b3, 0, none⟩))] h419 (Kw.nil hB412) fun q420 h421 => ?_
  clear h419
  refine sC 5 40 (g := (some (2, false))) h421 (g2 37 (rfl : false = false)) (c24 (appP i m).1 (appP (appP i m).1 m).1 A48 A270 c49 c271 w410 (show (appP i m).1.links.length ≤ 4611686018427387904 by omega) (own_rr ho413) (own_rr ho414)) ?_
  rintro _ w424 ⟨rfl, hb425⟩
  have hB426 := hB412.call hb425
  have ho427 := own_below ho413 hb425
  have ho428 := own_below ho414 hb425
  refine ⟨_, rfl, trivial, fun q422 h423 => ?_⟩
  clear h421 hB412 hb425
  have h429 := h423.keep [(40, .bool true), (39, insV (appP (appP i m).1 m).1 A270 c271), (38, insV (appP i m).1 A48 c49), (37, .bool false), (5, .pointer (some ⟨b64, 0, none⟩)), (4, .bool false), (3, .pointer (some ⟨b8, 0, none⟩)), (2, .pointer (some ⟨b3, 0, none⟩))] ⟨look_bool rfl (tw2 i m hc246), rfl, rfl, rfl, rfl, rfl, rfl, rfl, trivial⟩
  clear h423
  refine eG 6 41 (.unOp .not 4 (.tmp 40)) 4 (2, false) (.bool (!true)) (g2 37 (rfl : false = false)) h429 fun q430 h431 => ?_
  clear h429
  have h432 := h431.keep [(41, .bool false), (40, .bool true), (39, insV (appP (appP i m).1 m).1 A270 c271), (38, insV (appP i m).1 A48 c49), (37, .bool false), (5, .pointer (some ⟨b64, 0, none⟩)), (4, .bool false), (3, .pointer (some ⟨b8, 0, none⟩)), (2, .pointer (some ⟨b3, 0, none⟩))] ⟨rfl, rfl, rfl, rfl, rfl, rfl, rfl, rfl, rfl, trivial⟩
  clear h431
  refine b0 (.E 7 42 (.bool false) <| .nil) [(42, .bool false), (5, .pointer (some ⟨b64, 0, none⟩)), (4, .bool false), (3, .pointer (some ⟨b8, 0, none⟩)), (2, .pointer (some ⟨b3, 0, none⟩))] h432 (Kw.nil hB426) fun q433 h434 => ?_
  clear h432
  refine wpO_end ?_
  refine then_n ?_
  refine kC 42 false h434 (fun e435 => Bool.noConfusion (e435.symm.trans (rfl))) (fun _ => ?_)
  refine c_skip (by kernel_rfl) ?_
  refine then_n ?_
  refine kS ?_
  refine rp 11 ?_
  refine b0 (.C 0 43 <| .L 1 44 2 0 <| .C 2 45 <| .L 3 46 2 1 <| .C 4 47 <| .L 5 48 2 2 <| .C 6 49 <| .L 7 50 2 3 <| .E 8 51 (.agg #[.bool m.hasAmt, .bool m.hasDay, .bool m.hasPrio, .bool m.hasPart, .int .i64 0, .int .i64 0, .int .i64 0, .bool false, .int .i64 0]) <| .nil) [(51, .agg #[.bool m.hasAmt, .bool m.hasDay, .bool m.hasPrio, .bool m.hasPart, .int .i64 0, .int .i64 0, .int .i64 0, .bool false, .int .i64 0]), (5, .pointer (some ⟨b64, 0, none⟩)), (4, .bool false), (3, .pointer (some ⟨b8, 0, none⟩)), (2, .pointer (some ⟨b3, 0, none⟩))] h434 (Kw.nil hB426) fun q436 h437 => ?_
  clear h434
  refine sA 9 9 (fun b => .pointer (some ⟨b, 0, none⟩)) (.cells #[.bool false, .bool false, .bool false, .bool false, .int .i64 0, .int .i64 0, .int .i64 0, .bool false, .int .i64 0] 43 (0, 0)) h437 gok_none hB426 (fun _ _ hq => trivial) (fun b440 w441 hB442 hN q438 h439 => ?_)
  have ho443 := own_below ho427 hN
  have ho444 := own_below ho428 hN
  clear h437 hB426 hN
  refine sW 10 0 0 [(b440, .cells #[.bool m.hasAmt, .bool m.hasDay, .bool m.hasPrio, .bool m.hasPart, .int .i64 0, .int .i64 0, .int .i64 0, .bool false, .int .i64 0] 43 (0, 0)), (b286, .cells (insV (appP (appP i m).1 m).1 A270 c271).cells 29 (0, 0)), (b64, .cells (insV (appP i m).1 A48 c49).cells 29 (0, 0)), (b8, .cells (amV m).cells 40 (0, 0)), (b3, .cells (insV i A c).cells 24 (0, 0))] h439 gok_none hB442 (.inr fun _ _ => trivial) (fun w447 hB448 hT q445 h446 => ?_)
  clear h439 hB442
  have ho449 := own_turned ho443 hT (by kernel_rfl)
  have ho450 := own_turned ho444 hT (by kernel_rfl)
  clear hT
  refine wpO_end ?_
  have h451 := h446.keep [(9, .pointer (some ⟨b440, 0, none⟩)), (5, .pointer (some ⟨b64, 0, none⟩)), (4, .bool false), (3, .pointer (some ⟨b8, 0, none⟩)), (2, .pointer (some ⟨b3, 0, none⟩))] ⟨rfl, rfl, rfl, rfl, rfl, trivial⟩
  clear h446
  refine then_n ?_
  refine kS ?_
  refine kS ?_
  refine rp 2 ?_
  refine b0 (.C 0 52 <| .L 1 53 3 0 <| .nil) [(53, .bool m.hasAmt), (9, .pointer (some ⟨b440, 0, none⟩)), (5, .pointer (some ⟨b64, 0, none⟩)), (4, .bool false), (3, .pointer (some ⟨b8, 0, none⟩)), (2, .pointer (some ⟨b3, 0, none⟩))] h451 (Kw.nil hB448) fun q452 h453 => ?_
  clear h451
  refine wpO_end ?_
  refine then_n ?_
  refine c_cut (fun qa qw => Fr 92 [(9, .pointer (some ⟨b440, 0, none⟩)), (5, .pointer (some ⟨b64, 0, none⟩)), (4, .bool false), (3, .pointer (some ⟨b8, 0, none⟩)), (2, .pointer (some ⟨b3, 0, none⟩))] qa ∧ Bx w [(b440, .cells #[.bool m.hasAmt, .bool m.hasDay, .bool m.hasPrio, .bool m.hasPart, .int .i64 (bif m.hasAmt then i.amt else 0), .int .i64 0, .int .i64 0, .bool false, .int .i64 0] 43 (0, 0)), (b286, .cells (insV (appP (appP i m).1 m).1 A270 c271).cells 29 (0, 0)), (b64, .cells (insV (appP i m).1 A48 c49).cells 29 (0, 0)), (b8, .cells (amV m).cells 40 (0, 0)), (b3, .cells (insV i A c).cells 24 (0, 0))] qw ∧ World.ownsRow qw w.heap.size 66 2 (.slice A48 ((appP i m).1.links.length) c49) ((appP i m).1.links.length) (lkc (appP i m).1.links) ∧ World.ownsRow qw w.heap.size 66 2 (.slice A270 ((appP (appP i m).1 m).1.links.length) c271) ((appP (appP i m).1 m).1.links.length) (lkc (appP (appP i m).1 m).1.links)) ?_ ?_
  ·
    refine kC 53 m.hasAmt h453 (fun hc454 => ?_) (fun hc454 => ?_)
    ·
      refine rp 4 ?_
      refine b0 (.C 0 54 <| .L 1 55 4 7 <| .C 2 56 <| .nil) [(56, .pointer (some ⟨b440, 4, none⟩)), (55, .int .i64 i.amt), (9, .pointer (some ⟨b440, 0, none⟩)), (5, .pointer (some ⟨b64, 0, none⟩)), (4, .bool false), (3, .pointer (some ⟨b8, 0, none⟩)), (2, .pointer (some ⟨b3, 0, none⟩))] h453 (Kw.nil hB448) fun q455 h456 => ?_
      clear h453
      refine sW 3 0 4 [(b440, .cells #[.bool m.hasAmt, .bool m.hasDay, .bool m.hasPrio, .bool m.hasPart, .int .i64 i.amt, .int .i64 0, .int .i64 0, .bool false, .int .i64 0] 43 (0, 0)), (b286, .cells (insV (appP (appP i m).1 m).1 A270 c271).cells 29 (0, 0)), (b64, .cells (insV (appP i m).1 A48 c49).cells 29 (0, 0)), (b8, .cells (amV m).cells 40 (0, 0)), (b3, .cells (insV i A c).cells 24 (0, 0))] h456 gok_none hB448 (.inr fun _ _ => trivial) (fun w459 hB460 hT q457 h458 => ?_)
      clear h456 hB448
      have ho461 := own_turned ho449 hT (by kernel_rfl)
      have ho462 := own_turned ho450 hT (by kernel_rfl)
      clear hT
      refine wpO_end ?_
      have h463 := h458.keep [(9, .pointer (some ⟨b440, 0, none⟩)), (5, .pointer (some ⟨b64, 0, none⟩)), (4, .bool false), (3, .pointer (some ⟨b8, 0, none⟩)), (2, .pointer (some ⟨b3, 0, none⟩))] ⟨rfl, rfl, rfl, rfl, rfl, trivial⟩
      clear h458
      exact cut_n ⟨h463.keep _ ⟨rfl, rfl, rfl, rfl, rfl, trivial⟩, by rw [cT hc454]; exact hB460, ho461, ho462⟩
    ·
      refine c_skip (by kernel_rfl) ?_
      exact cut_n ⟨h453.keep _ ⟨rfl, rfl, rfl, rfl, rfl, trivial⟩, by rw [cF hc454]; exact hB448, ho449, ho450⟩
  rintro q464 w465 ⟨h466, hB467, ho468, ho469⟩
  refine then_n ?_
  refine kS ?_
  refine kS ?_
  refine rp 2 ?_
  refine b0 (.C 0 57 <| .L 1 58 3 1 <| .nil) [(58, .bool m.hasDay), (9, .pointer (some ⟨b440, 0, none⟩)), (5, .pointer (some ⟨b64, 0, none⟩)), (4, .bool false), (3, .pointer (some ⟨b8, 0, none⟩)), (2, .pointer (some ⟨b3, 0, none⟩))] h466 (Kw.nil hB467) fun q470 h471 => ?_
  clear h466
  refine wpO_end ?_
  refine then_n ?_
  refine c_cut (fun qa qw => Fr 92 [(9, .pointer (some ⟨b440, 0, none⟩)), (5, .pointer (some ⟨b64, 0, none⟩)), (4, .bool false), (3, .pointer (some ⟨b8, 0, none⟩)), (2, .pointer (some ⟨b3, 0, none⟩))] qa ∧ Bx w [(b440, .cells #[.bool m.hasAmt, .bool m.hasDay, .bool m.hasPrio, .bool m.hasPart, .int .i64 (bif m.hasAmt then i.amt else 0), .int .i64 (bif m.hasDay then i.sday else 0), .int .i64 0, .bool false, .int .i64 0] 43 (0, 0)), (b286, .cells (insV (appP (appP i m).1 m).1 A270 c271).cells 29 (0, 0)), (b64, .cells (insV (appP i m).1 A48 c49).cells 29 (0, 0)), (b8, .cells (amV m).cells 40 (0, 0)), (b3, .cells (insV i A c).cells 24 (0, 0))] qw ∧ World.ownsRow qw w.heap.size 66 2 (.slice A48 ((appP i m).1.links.length) c49) ((appP i m).1.links.length) (lkc (appP i m).1.links) ∧ World.ownsRow qw w.heap.size 66 2 (.slice A270 ((appP (appP i m).1 m).1.links.length) c271) ((appP (appP i m).1 m).1.links.length) (lkc (appP (appP i m).1 m).1.links)) ?_ ?_
  ·
    refine kC 58 m.hasDay h471 (fun hc472 => ?_) (fun hc472 => ?_)
    ·
      refine rp 4 ?_
      refine b0 (.C 0 59 <| .L 1 60 4 9 <| .C 2 61 <| .nil) [(61, .pointer (some ⟨b440, 5, none⟩)), (60, .int .i64 i.sday), (9, .pointer (some ⟨b440, 0, none⟩)), (5, .pointer (some ⟨b64, 0, none⟩)), (4, .bool false), (3, .pointer (some ⟨b8, 0, none⟩)), (2, .pointer (some ⟨b3, 0, none⟩))] h471 (Kw.nil hB467) fun q473 h474 => ?_
      clear h471
      refine sW 3 0 5 [(b440, .cells #[.bool m.hasAmt, .bool m.hasDay, .bool m.hasPrio, .bool m.hasPart, .int .i64 (bif m.hasAmt then i.amt else 0), .int .i64 i.sday, .int .i64 0, .bool false, .int .i64 0] 43 (0, 0)), (b286, .cells (insV (appP (appP i m).1 m).1 A270 c271).cells 29 (0, 0)), (b64, .cells (insV (appP i m).1 A48 c49).cells 29 (0, 0)), (b8, .cells (amV m).cells 40 (0, 0)), (b3, .cells (insV i A c).cells 24 (0, 0))] h474 gok_none hB467 (.inr fun _ _ => trivial) (fun w477 hB478 hT q475 h476 => ?_)
      clear h474 hB467
      have ho479 := own_turned ho468 hT (by kernel_rfl)
      have ho480 := own_turned ho469 hT (by kernel_rfl)
      clear hT
      refine wpO_end ?_
      have h481 := h476.keep [(9, .pointer (some ⟨b440, 0, none⟩)), (5, .pointer (some ⟨b64, 0, none⟩)), (4, .bool false), (3, .pointer (some ⟨b8, 0, none⟩)), (2, .pointer (some ⟨b3, 0, none⟩))] ⟨rfl, rfl, rfl, rfl, rfl, trivial⟩
      clear h476
      exact cut_n ⟨h481.keep _ ⟨rfl, rfl, rfl, rfl, rfl, trivial⟩, by rw [cT hc472]; exact hB478, ho479, ho480⟩
    ·
      refine c_skip (by kernel_rfl) ?_
      exact cut_n ⟨h471.keep _ ⟨rfl, rfl, rfl, rfl, rfl, trivial⟩, by rw [cF hc472]; exact hB467, ho468, ho469⟩
  rintro q482 w483 ⟨h484, hB485, ho486, ho487⟩
  refine then_n ?_
  refine kS ?_
  refine kS ?_
  refine rp 2 ?_
  refine b0 (.C 0 62 <| .L 1 63 3 2 <| .nil) [(63, .bool m.hasPrio), (9, .pointer (some ⟨b440, 0, none⟩)), (5, .pointer (some ⟨b64, 0, none⟩)), (4, .bool false), (3, .pointer (some ⟨b8, 0, none⟩)), (2, .pointer (some ⟨b3, 0, none⟩))] h484 (Kw.nil hB485) fun q488 h489 => ?_
  clear h484
  refine wpO_end ?_
  refine then_n ?_
  refine c_cut (fun qa qw => Fr 92 [(9, .pointer (some ⟨b440, 0, none⟩)), (5, .pointer (some ⟨b64, 0, none⟩)), (4, .bool false), (3, .pointer (some ⟨b8, 0, none⟩)), (2, .pointer (some ⟨b3, 0, none⟩))] qa ∧ Bx w [(b440, .cells #[.bool m.hasAmt, .bool m.hasDay, .bool m.hasPrio, .bool m.hasPart, .int .i64 (bif m.hasAmt then i.amt else 0), .int .i64 (bif m.hasDay then i.sday else 0), .int .i64 (bif m.hasPrio then i.prio else 0), .bool false, .int .i64 0] 43 (0, 0)), (b286, .cells (insV (appP (appP i m).1 m).1 A270 c271).cells 29 (0, 0)), (b64, .cells (insV (appP i m).1 A48 c49).cells 29 (0, 0)), (b8, .cells (amV m).cells 40 (0, 0)), (b3, .cells (insV i A c).cells 24 (0, 0))] qw ∧ World.ownsRow qw w.heap.size 66 2 (.slice A48 ((appP i m).1.links.length) c49) ((appP i m).1.links.length) (lkc (appP i m).1.links) ∧ World.ownsRow qw w.heap.size 66 2 (.slice A270 ((appP (appP i m).1 m).1.links.length) c271) ((appP (appP i m).1 m).1.links.length) (lkc (appP (appP i m).1 m).1.links)) ?_ ?_
  ·
    refine kC 63 m.hasPrio h489 (fun hc490 => ?_) (fun hc490 => ?_)
    ·
      refine rp 4 ?_
      refine b0 (.C 0 64 <| .L 1 65 4 10 <| .C 2 66 <| .nil) [(66, .pointer (some ⟨b440, 6, none⟩)), (65, .int .i64 i.prio), (9, .pointer (some ⟨b440, 0, none⟩)), (5, .pointer (some ⟨b64, 0, none⟩)), (4, .bool false), (3, .pointer (some ⟨b8, 0, none⟩)), (2, .pointer (some ⟨b3, 0, none⟩))] h489 (Kw.nil hB485) fun q491 h492 => ?_
      clear h489
      refine sW 3 0 6 [(b440, .cells #[.bool m.hasAmt, .bool m.hasDay, .bool m.hasPrio, .bool m.hasPart, .int .i64 (bif m.hasAmt then i.amt else 0), .int .i64 (bif m.hasDay then i.sday else 0), .int .i64 i.prio, .bool false, .int .i64 0] 43 (0, 0)), (b286, .cells (insV (appP (appP i m).1 m).1 A270 c271).cells 29 (0, 0)), (b64, .cells (insV (appP i m).1 A48 c49).cells 29 (0, 0)), (b8, .cells (amV m).cells 40 (0, 0)), (b3, .cells (insV i A c).cells 24 (0, 0))] h492 gok_none hB485 (.inr fun _ _ => trivial) (fun w495 hB496 hT q493 h494 => ?_)
      clear h492 hB485
      have ho497 := own_turned ho486 hT (by kernel_rfl)
      have ho498 := own_turned ho487 hT (by kernel_rfl)
      clear hT
      refine wpO_end ?_
      have h499 := h494.keep [(9, .pointer (some ⟨b440, 0, none⟩)), (5, .pointer (some ⟨b64, 0, none⟩)), (4, .bool false), (3, .pointer (some ⟨b8, 0, none⟩)), (2, .pointer (some ⟨b3, 0, none⟩))] ⟨rfl, rfl, rfl, rfl, rfl, trivial⟩
      clear h494
      exact cut_n ⟨h499.keep _ ⟨rfl, rfl, rfl, rfl, rfl, trivial⟩, by rw [cT hc490]; exact hB496, ho497, ho498⟩
    ·
      refine c_skip (by kernel_rfl) ?_
      exact cut_n ⟨h489.keep _ ⟨rfl, rfl, rfl, rfl, rfl, trivial⟩, by rw [cF hc490]; exact hB485, ho486, ho487⟩
  rintro q500 w501 ⟨h502, hB503, ho504, ho505⟩
  refine then_n ?_
  refine kS ?_
  refine kS ?_
  refine rp 2 ?_
  refine b0 (.C 0 67 <| .L 1 68 3 3 <| .nil) [(68, .bool m.hasPart), (9, .pointer (some ⟨b440, 0, none⟩)), (5, .pointer (some ⟨b64, 0, none⟩)), (4, .bool false), (2, .pointer (some ⟨b3, 0, none⟩))] h502 (Kw.nil hB503) fun q506 h507 => ?_
  clear h502
  refine wpO_end ?_
  refine then_n ?_
  refine c_cut (fun qa qw => Fr 92 [(9, .pointer (some ⟨b440, 0, none⟩)), (5, .pointer (some ⟨b64, 0, none⟩)), (4, .bool false), (2, .pointer (some ⟨b3, 0, none⟩))] qa ∧ Bx w [(b440, .cells #[.bool m.hasAmt, .bool m.hasDay, .bool m.hasPrio, .bool m.hasPart, .int .i64 (bif m.hasAmt then i.amt else 0), .int .i64 (bif m.hasDay then i.sday else 0), .int .i64 (bif m.hasPrio then i.prio else 0), .bool (bif m.hasPart then i.part else false), .int .i64 (bif m.hasPart then i.minlot else 0)] 43 (0, 0)), (b286, .cells (insV (appP (appP i m).1 m).1 A270 c271).cells 29 (0, 0)), (b64, .cells (insV (appP i m).1 A48 c49).cells 29 (0, 0)), (b8, .cells (amV m).cells 40 (0, 0)), (b3, .cells (insV i A c).cells 24 (0, 0))] qw ∧ World.ownsRow qw w.heap.size 66 2 (.slice A48 ((appP i m).1.links.length) c49) ((appP i m).1.links.length) (lkc (appP i m).1.links) ∧ World.ownsRow qw w.heap.size 66 2 (.slice A270 ((appP (appP i m).1 m).1.links.length) c271) ((appP (appP i m).1 m).1.links.length) (lkc (appP (appP i m).1 m).1.links)) ?_ ?_
  ·
    refine kC 68 m.hasPart h507 (fun hc508 => ?_) (fun hc508 => ?_)
    ·
      have hD509 := hB503.drew
      refine rd (Bx w [(b286, .cells (insV (appP (appP i m).1 m).1 A270 c271).cells 29 (0, 0)), (b64, .cells (insV (appP i m).1 A48 c49).cells 29 (0, 0)), (b8, .cells (amV m).cells 40 (0, 0)), (b3, .cells (insV i A c).cells 24 (0, 0))]) 8 [⟨0, true, 0, 4, 590295810358705651712⟩, ⟨1, true, 1, 590295810358705651712, 1180591620717411303424⟩, ⟨2, true, 0, 4, 2361183241434822606848⟩, ⟨3, true, 4, 2361183241434822606848, 4722366482869645213696⟩, ⟨4, true, 3, 512, 9444732965739290427392⟩, ⟨5, false, 19, 10625324586456701730816, 0⟩, ⟨6, true, 63, 512, 18889465931478580854784⟩, ⟨7, false, 127, 23611832414348226068480, 0⟩] hD509.tail ?_
      have ho510 := own_drew ho504
      have ho511 := own_drew ho505
      generalize World.drew w501 = w512 at hD509 ho510 ho511 ⊢
      refine d0 (.C 0 69 <| .L 1 70 3 11 <| .C 2 71 <| .L 3 72 3 12 <| .C 4 73 <| .nil) [(73, .pointer (some ⟨b440, 7, none⟩)), (72, .int .i64 i.minlot), (70, .bool i.part), (9, .pointer (some ⟨b440, 0, none⟩)), (5, .pointer (some ⟨b64, 0, none⟩)), (4, .bool false), (2, .pointer (some ⟨b3, 0, none⟩))] h507 (fun _ hS => Kw.nil hS) fun q513 h514 => ?_
      clear h507
      refine sW 5 0 7 [(b440, .cells #[.bool m.hasAmt, .bool m.hasDay, .bool m.hasPrio, .bool m.hasPart, .int .i64 (bif m.hasAmt then i.amt else 0), .int .i64 (bif m.hasDay then i.sday else 0), .int .i64 (bif m.hasPrio then i.prio else 0), .bool i.part, .int .i64 0] 43 (0, 0)), (b286, .cells (insV (appP (appP i m).1 m).1 A270 c271).cells 29 (0, 0)), (b64, .cells (insV (appP i m).1 A48 c49).cells 29 (0, 0)), (b8, .cells (amV m).cells 40 (0, 0)), (b3, .cells (insV i A c).cells 24 (0, 0))] h514 gok_none hD509 (.inr fun _ hq => hq.tail) (fun w517 hB518 hT q515 h516 => ?_)
      clear h514 hD509
      have ho519 := own_turned ho510 hT (by kernel_rfl)
      have ho520 := own_turned ho511 hT (by kernel_rfl)
      clear hT
      refine d0 (.C 6 74 <| .nil) [(74, .pointer (some ⟨b440, 8, none⟩)), (72, .int .i64 i.minlot), (9, .pointer (some ⟨b440, 0, none⟩)), (5, .pointer (some ⟨b64, 0, none⟩)), (4, .bool false), (2, .pointer (some ⟨b3, 0, none⟩))] h516 (fun _ hS => Kw.nil hS) fun q521 h522 => ?_
      clear h516
      refine sW 7 0 8 [(b440, .cells #[.bool m.hasAmt, .bool m.hasDay, .bool m.hasPrio, .bool m.hasPart, .int .i64 (bif m.hasAmt then i.amt else 0), .int .i64 (bif m.hasDay then i.sday else 0), .int .i64 (bif m.hasPrio then i.prio else 0), .bool i.part, .int .i64 i.minlot] 43 (0, 0)), (b286, .cells (insV (appP (appP i m).1 m).1 A270 c271).cells 29 (0, 0)), (b64, .cells (insV (appP i m).1 A48 c49).cells 29 (0, 0)), (b8, .cells (amV m).cells 40 (0, 0)), (b3, .cells (insV i A c).cells 24 (0, 0))] h522 gok_none hB518 (.inr fun _ hq => hq.tail) (fun w525 hB526 hT q523 h524 => ?_)
      clear h522 hB518
      have ho527 := own_turned ho519 hT (by kernel_rfl)
      have ho528 := own_turned ho520 hT (by kernel_rfl)
      clear hT
      refine wpO_end ?_
      have h529 := h524.keep [(9, .pointer (some ⟨b440, 0, none⟩)), (5, .pointer (some ⟨b64, 0, none⟩)), (4, .bool false), (2, .pointer (some ⟨b3, 0, none⟩))] ⟨rfl, rfl, rfl, rfl, trivial⟩
      clear h524
      exact cut_n ⟨h529.keep _ ⟨rfl, rfl, rfl, rfl, trivial⟩, by rw [cT hc508, cT hc508]; exact hB526, ho527, ho528⟩
    ·
      refine c_skip (by kernel_rfl) ?_
      exact cut_n ⟨h507.keep _ ⟨rfl, rfl, rfl, rfl, trivial⟩, by rw [cF hc508, cF hc508]; exact hB503, ho504, ho505⟩
  rintro q530 w531 ⟨h532, hB533, ho534, ho535⟩
  have hB536 : Bx w [(b440, .cells (amV (bck i m)).cells 43 (0, 0)), (b286, .cells (insV (appP (appP i m).1 m).1 A270 c271).cells 29 (0, 0)), (b64, .cells (insV (appP i m).1 A48 c49).cells 29 (0, 0)), (b8, .cells (amV m).cells 40 (0, 0)), (b3, .cells (insV i A c).cells 24 (0, 0))] w531 := hB533
  clear hB533
  refine then_n ?_
  refine kS ?_
  refine rp 9 ?_
  refine b0 (.S 0 76 2 0 16 <| .S 1 77 0 0 9 <| .nil) [(77, amV (bck i m)), (76, insV (appP i m).1 A48 c49), (4, .bool false), (2, .pointer (some ⟨b3, 0, none⟩))] h532 (Kw.nil hB536) fun q537 h538 => ?_
  clear h532
  refine sC 2 78 h538 gok_none (c33 (appP i m).1 (bck i m) A48 c49 _ w531 (by omega) ho534) ?_
  rintro _ w543 ⟨A541, c542, rfl, ho547, hb544⟩
  have ho546 := own_base ho547 hB536.bel.size
  have hB545 := hB536.call hb544
  have ho548 := own_below ho534 hb544
  have ho549 := own_below ho535 hb544
  refine ⟨_, rfl, trivial, fun q539 h540 => ?_⟩
  clear h538 hB536 hb544
  refine b0 (.C 3 75 <| .E 4 79 (insV (appP (appP i m).1 (bck i m)).1 A541 c542) <| .E 5 80 (.int .i64 ((appP (appP i m).1 (bck i m)).2)) <| .nil) [(80, .int .i64 ((appP (appP i m).1 (bck i m)).2)), (79, insV (appP (appP i m).1 (bck i m)).1 A541 c542), (4, .bool false), (2, .pointer (some ⟨b3, 0, none⟩))] h540 (Kw.nil hB545) fun q550 h551 => ?_
  clear h540
  refine sA 6 10 (fun b => .pointer (some ⟨b, 0, none⟩)) (.cells #[.string (⟨#[]⟩ : ByteArray), .int .i64 0, .string (⟨#[]⟩ : ByteArray), .string (⟨#[]⟩ : ByteArray), .int .i64 0, .string (⟨#[]⟩ : ByteArray), .int .i64 0, .int .i64 0, .int .i64 0, .int .i64 0, .int .i64 0, .bool false, .int .i64 0, .bool false, .bool false, .slice none 0 0] 29 (0, 0)) h551 gok_none hB545 (fun _ _ hq => trivial) (fun b554 w555 hB556 hN q552 h553 => ?_)
  have ho557 := own_below ho548 hN
  have ho558 := own_below ho549 hN
  have ho559 := own_below ho546 hN
  clear h551 hB545 hN
  refine sW 7 0 0 [(b554, .cells (insV (appP (appP i m).1 (bck i m)).1 A541 c542).cells 29 (0, 0)), (b440, .cells (amV (bck i m)).cells 43 (0, 0)), (b286, .cells (insV (appP (appP i m).1 m).1 A270 c271).cells 29 (0, 0)), (b64, .cells (insV (appP i m).1 A48 c49).cells 29 (0, 0)), (b8, .cells (amV m).cells 40 (0, 0)), (b3, .cells (insV i A c).cells 24 (0, 0))] h553 gok_none hB556 (.inr fun _ _ => trivial) (fun w562 hB563 hT q560 h561 => ?_)
  clear h553 hB556
  have ho564 := own_turned ho557 hT (by kernel_rfl)
  have ho565 := own_turned ho558 hT (by kernel_rfl)
  have ho566 := own_turned ho559 hT (by kernel_rfl)
  clear hT
  refine b0 (.C 8 11 <| .nil) [(11, .int .i64 ((appP (appP i m).1 (bck i m)).2)), (10, .pointer (some ⟨b554, 0, none⟩)), (4, .bool false), (2, .pointer (some ⟨b3, 0, none⟩))] h561 (Kw.nil hB563) fun q567 h568 => ?_
  clear h561
  refine wpO_end ?_
  refine then_n ?_
  refine kS ?_
  have hD569 := hB563.drew
  refine rd (Bx w [(b554, .cells (insV (appP (appP i m).1 (bck i m)).1 A541 c542).cells 29 (0, 0)), (b440, .cells (amV (bck i m)).cells 43 (0, 0)), (b286, .cells (insV (appP (appP i m).1 m).1 A270 c271).cells 29 (0, 0)), (b64, .cells (insV (appP i m).1 A48 c49).cells 29 (0, 0)), (b8, .cells (amV m).cells 40 (0, 0)), (b3, .cells (insV i A c).cells 24 (0, 0))]) 12 [⟨0, true, 0, 2048, 2417851639229258349412352⟩, ⟨1, true, 1, 2417851639229258349412352, 4835703278458516698824704⟩, ⟨2, true, 2, 4835703278458516698824704, 9671406556917033397649408⟩, ⟨3, true, 4, 9671406556917033397650432, 19342813113834066795298816⟩, ⟨5, true, 4, 9671406556917033397649412, 77371252455336267181195264⟩, ⟨4, false, 12, 29014219670751100192948224, 38685626227668133590597632⟩, ⟨6, false, 52, 125728285239921434169442304, 154742504910672534362390528⟩, ⟨7, true, 68, 164413911467589567760039936, 309485009821345068724781056⟩, ⟨8, true, 192, 309485009821345068724781056, 618970019642690137449562112⟩, ⟨9, false, 256, 618970019642690137449562112, 1237940039285380274899124224⟩, ⟨10, true, 768, 1856910058928070412348686336, 2475880078570760549798248448⟩, ⟨11, true, 2047, 2475880078570760549798248448, 16⟩] hD569 ?_
  have ho570 := own_drew ho564
  have ho571 := own_drew ho565
  have ho572 := own_drew ho566
  generalize World.drew w562 = w573 at hD569 ho570 ho571 ho572 ⊢
  refine d0 (.C 0 81 <| .nil) [(81, .int .i64 ((appP (appP i m).1 (bck i m)).2)), (10, .pointer (some ⟨b554, 0, none⟩)), (4, .bool false), (2, .pointer (some ⟨b3, 0, none⟩))] h568 (fun _ hS => Kw.nil hS) fun q574 h575 => ?_
  clear h568
  refine fE 1 82 (.binOp .eql 26 (.tmp 81) (.const (.int .i64 0)) 26) 4 (.bool ((appP (appP i m).1 (bck i m)).2 == (0 : Int))) h575 fun q576 h577 => ?_
  clear h575
  have h578 := h577.keep [(82, .bool true), (81, .int .i64 ((appP (appP i m).1 (bck i m)).2)), (10, .pointer (some ⟨b554, 0, none⟩)), (4, .bool false), (2, .pointer (some ⟨b3, 0, none⟩))] ⟨look_bool rfl (tw3 i m hc246), rfl, rfl, rfl, rfl, trivial⟩
  clear h577
  refine d1 83 (rfl : true = true) (.C 2 83 <| .S 3 84 0 0 16 <| .S 5 86 5 0 16 <| .nil) [(86, insV i A c), (84, insV (appP (appP i m).1 (bck i m)).1 A541 c542), (83, .bool true), (4, .bool false)] h578 (fun _ hS => Kw.nil hS) fun q579 h580 => ?_
  clear h578
  refine sC 4 85 (g := (some (2, true))) h580 (g1 83 (rfl : true = true)) (c35 (appP (appP i m).1 (bck i m)).1 A541 c542 w573 (by omega) (own_rr ho572)) ?_
  rintro _ w585 ⟨A583, c584, rfl, ho589, hb586⟩
  have ho588 := own_base ho589 hD569.bel.size
  have hB587 := hD569.call hb586
  have ho590 := own_below ho570 hb586
  have ho591 := own_below ho571 hb586
  have ho592 := own_below ho572 hb586
  refine ⟨_, rfl, hB587, fun q581 h582 => ?_⟩
  clear h580 hD569 hb586
  refine sC 6 87 (g := (some (2, true))) h582 (g1 83 (rfl : true = true)) (c25 (appP (appP i m).1 (bck i m)).1 i A583 A c584 c w585 (show (appP (appP i m).1 (bck i m)).1.links.length ≤ 4611686018427387904 by omega) (own_rr ho588) (hr.below hB587.bel)) ?_
  rintro _ w595 ⟨rfl, hb596⟩
  have hB597 := hB587.call hb596
  have ho598 := own_below ho590 hb596
  have ho599 := own_below ho591 hb596
  have ho600 := own_below ho592 hb596
  have ho601 := own_below ho588 hb596
  refine ⟨_, rfl, hB597, fun q593 h594 => ?_⟩
  clear h582 hB587 hb596
  have h602 := h594.keep [(87, .bool true), (85, insV (appP (appP i m).1 (bck i m)).1 A583 c584), (86, insV i A c), (84, insV (appP (appP i m).1 (bck i m)).1 A541 c542), (83, .bool true), (4, .bool false)] ⟨look_bool rfl (tw4 i m hc246), rfl, rfl, rfl, rfl, rfl, trivial⟩
  clear h594
  refine d0 (.E 7 88 (.bool true) <| .C 8 89 <| .nil) [(89, .bool true), (4, .bool false)] h602 (fun _ hS => Kw.nil hS) fun q603 h604 => ?_
  clear h602
  refine sC 9 90 (g := (some (8, true))) h604 (g1 89 (rfl : true = true)) (c12 w595) ?_
  rintro _ w607 ⟨rfl, hb608⟩
  have hB609 := hB597.call hb608
  have ho610 := own_below ho598 hb608
  have ho611 := own_below ho599 hb608
  have ho612 := own_below ho600 hb608
  have ho613 := own_below ho601 hb608
  refine ⟨_, rfl, hB609, fun q605 h606 => ?_⟩
  clear h604 hB597 hb608
  refine d0 (.E 10 91 (.bool true) <| .C 11 4 <| .nil) [(4, .bool true)] h606 (fun _ hS => Kw.nil hS) fun q614 h615 => ?_
  clear h606
  refine wpO_end ?_
  refine then_n ?_
  refine c_ret (by kernel_rfl) ?_
  refine ret1 (t := 4) (v := .bool true) h615 (by kernel_rfl) (by kernel_rfl) ?_
  exact ⟨ret_eq (rfl), hB609.bel⟩

end Go.Proofs.YtljegdokbifoiaaDoor.Af
