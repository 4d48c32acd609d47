/- The law of clones. No condition but the arguments' own. -/
import Derived.Test.YtljegdokbifoiaaDoorCn
namespace Go.Proofs.YtljegdokbifoiaaDoor.Af
open Go.RowKit
set_option maxHeartbeats 4000000 in
set_option maxRecDepth 20000 in
theorem law11 (i : Ins) (A : Option Addr) (c : Nat) (m : Am) (w : World) (hr : Rd w A (lkc i.links)) (hs : ∀ x ∈ i.links, x.r.size ≤ 140737488351232) : Calls Tryd.prog 11 #[insV i A c, amV m] w fun e w' => e = .returned (.bool true) ∧ Below w.heap.size w w' := by
  refine enter Tryd.func11 (by kernel_rfl) ?_ (by kernel_rfl)
  intro q0 h0
  replace h0 := h0.conv (l' := [(0, insV i A c), (1, amV m)]) rfl
  have hB := Bx.refl w
  refine kS ?_
  refine rp 3 ?_
  refine sA 0 2 (fun b => .pointer (some ⟨b, 0, none⟩)) (.cells (insV i A c).cells 24 (0, 0)) h0 gok_none hB (fun _ _ hq => trivial) (fun b3 w4 hB5 hN q1 h2 => ?_)
  clear h0 hB hN
  refine sA 1 3 (fun b => .pointer (some ⟨b, 0, none⟩)) (.cells (amV m).cells 40 (0, 0)) h2 gok_none hB5 (fun _ _ hq => trivial) (fun b8 w9 hB10 hN q6 h7 => ?_)
  clear h2 hB5 hN
  refine b0 (.C 2 4 <| .nil) [(4, .bool false), (3, .pointer (some ⟨b8, 0, none⟩)), (2, .pointer (some ⟨b3, 0, none⟩))] h7 (Kw.nil hB10) fun q11 h12 => ?_
  clear h7
  refine wpO_end ?_
  refine then_n ?_
  refine kS ?_
  refine kS ?_
  refine rp 4 ?_
  refine b0 (.C 0 14 <| .L 1 15 1 15 <| .E 2 16 (.int .i64 ((i.links.length : Nat) : Int)) <| .E 3 17 (.bool (decide ((40 : Int) < ((i.links.length : Nat) : Int)))) <| .nil) [(17, .bool (decide ((40 : Int) < ((i.links.length : Nat) : Int)))), (4, .bool false), (3, .pointer (some ⟨b8, 0, none⟩)), (2, .pointer (some ⟨b3, 0, none⟩))] h12 (Kw.nil hB10) fun q13 h14 => ?_
  clear h12
  refine wpO_end ?_
  refine then_n ?_
  refine kC 17 (decide ((40 : Int) < ((i.links.length : Nat) : Int))) h14 (fun hc15 => ?_) (fun hc15 => ?_)
  ·
    have hp16 : ((40 : Int) < ((i.links.length : Nat) : Int)) := of_decide_eq_true hc15
    refine kS ?_
    refine rp 2 ?_
    refine sC 0 18 h14 gok_none (c12 w9) ?_
    rintro _ w19 ⟨rfl, hb20⟩
    have hB21 := hB10.call hb20
    refine ⟨_, rfl, trivial, fun q17 h18 => ?_⟩
    clear h14 hB10 hb20
    refine b0 (.C 1 4 <| .nil) [(4, .bool true), (3, .pointer (some ⟨b8, 0, none⟩)), (2, .pointer (some ⟨b3, 0, none⟩))] h18 (Kw.nil hB21) fun q22 h23 => ?_
    clear h18
    refine wpO_end ?_
    refine then_n ?_
    refine c_ret (by kernel_rfl) ?_
    refine then_r ?_
    refine ret1 (t := 4) (v := .bool true) h23 (by kernel_rfl) (by kernel_rfl) ?_
    exact ⟨ret_eq (rfl), hB21.bel⟩
  have hp24 : ¬ ((40 : Int) < ((i.links.length : Nat) : Int)) := of_decide_eq_false hc15
  have hal := app_links_len i m
  have hal2 := nrm_len i
  refine c_skip (by kernel_rfl) ?_
  refine then_n ?_
  refine kS ?_
  refine rp 4 ?_
  refine b0 (.S 0 19 1 0 16 <| .nil) [(19, insV i A c), (4, .bool false), (3, .pointer (some ⟨b8, 0, none⟩)), (2, .pointer (some ⟨b3, 0, none⟩))] h14 (Kw.nil hB10) fun q25 h26 => ?_
  clear h14
  refine sC 1 20 h26 gok_none (c13 i A c w9 (by omega) (hr.below hB10.bel)) ?_
  rintro _ w31 ⟨A29, cp30, rfl, ho35, hb32⟩
  have ho34 := own_base ho35 hB10.bel.size
  have hB33 := hB10.call hb32
  refine ⟨_, rfl, trivial, fun q27 h28 => ?_⟩
  clear h26 hB10 hb32
  refine sA 2 5 (fun b => .pointer (some ⟨b, 0, none⟩)) (.cells #[.string (⟨#[]⟩ : ByteArray), .int .i64 0, .string (⟨#[]⟩ : ByteArray), .string (⟨#[]⟩ : ByteArray), .int .i64 0, .string (⟨#[]⟩ : ByteArray), .int .i64 0, .int .i64 0, .int .i64 0, .int .i64 0, .int .i64 0, .bool false, .int .i64 0, .bool false, .bool false, .slice none 0 0] 29 (0, 0)) h28 gok_none hB33 (fun _ _ hq => trivial) (fun b38 w39 hB40 hN q36 h37 => ?_)
  have ho41 := own_below ho34 hN
  clear h28 hB33 hN
  refine sW 3 0 0 [(b38, .cells (insV i A29 cp30).cells 29 (0, 0)), (b8, .cells (amV m).cells 40 (0, 0)), (b3, .cells (insV i A c).cells 24 (0, 0))] h37 gok_none hB40 (.inr fun _ _ => trivial) (fun w44 hB45 hT q42 h43 => ?_)
  clear h37 hB40
  have ho46 := own_turned ho41 hT (by kernel_rfl)
  clear hT
  have hE2 := El.of_blk (hB45.at 2 rfl)
  have hE5 := El.of_blk (hB45.at 0 rfl)
  have hE3 := El.of_blk (hB45.at 1 rfl)
  have hx5 := own_base ho46 (base' := 0) (Nat.zero_le _)
  have hbl47 := hB45.bel
  have hB48 := Bx.refl w44
  clear hB45
  refine wpO_end ?_
  have h49 := h43.keep [(5, .pointer (some ⟨b38, 0, none⟩)), (4, .bool false), (3, .pointer (some ⟨b8, 0, none⟩)), (2, .pointer (some ⟨b3, 0, none⟩))] ⟨rfl, rfl, rfl, rfl, trivial⟩
  clear h43
  refine then_n ?_
  refine kS ?_
  refine rp 4 ?_
  refine b0 (.Y 0 21 0 0 16 <| .nil) [(21, insV i A29 cp30), (5, .pointer (some ⟨b38, 0, none⟩)), (4, .bool false), (3, .pointer (some ⟨b8, 0, none⟩)), (2, .pointer (some ⟨b3, 0, none⟩))] h49 ((Kw.nil hB48).cons (hE5.below hB48.bel)) fun q50 h51 => ?_
  clear h49
  refine sC 1 22 h51 gok_none (c38 i A29 cp30 _ w44 (by omega) hx5) ?_
  rintro _ w56 ⟨A54, cp55, rfl, ho60, hb57⟩
  have ho59 := own_base ho60 hB48.bel.size
  have hB58 := hB48.call hb57
  have ho61 := own_below hx5 hb57
  refine ⟨_, rfl, trivial, fun q52 h53 => ?_⟩
  clear h51 hB48 hb57
  refine sA 2 6 (fun b => .pointer (some ⟨b, 0, none⟩)) (.cells #[.string (⟨#[]⟩ : ByteArray), .int .i64 0, .string (⟨#[]⟩ : ByteArray), .string (⟨#[]⟩ : ByteArray), .int .i64 0, .string (⟨#[]⟩ : ByteArray), .int .i64 0, .int .i64 0, .int .i64 0, .int .i64 0, .int .i64 0, .bool false, .int .i64 0, .bool false, .bool false, .slice none 0 0] 29 (0, 0)) h53 gok_none hB58 (fun _ _ hq => trivial) (fun b64 w65 hB66 hN q62 h63 => ?_)
  have ho67 := own_below ho61 hN
  have ho68 := own_below ho59 hN
  clear h53 hB58 hN
  refine sW 3 0 0 [(b64, .cells (insV i A54 cp55).cells 29 (0, 0))] h63 gok_none hB66 (.inr fun _ _ => trivial) (fun w71 hB72 hT q69 h70 => ?_)
  clear h63 hB66
  have ho73 := own_turned ho67 hT (by kernel_rfl)
  have ho74 := own_turned ho68 hT (by kernel_rfl)
  clear hT
  refine wpO_end ?_
  have h75 := h70.keep [(6, .pointer (some ⟨b64, 0, none⟩)), (5, .pointer (some ⟨b38, 0, none⟩)), (4, .bool false), (3, .pointer (some ⟨b8, 0, none⟩)), (2, .pointer (some ⟨b3, 0, none⟩))] ⟨rfl, rfl, rfl, rfl, rfl, trivial⟩
  clear h70
  refine then_n ?_
  refine kS ?_
  refine rp 8 ?_
  refine b0 (.Y 0 24 0 0 16 <| .nil) [(24, insV i A29 cp30), (6, .pointer (some ⟨b64, 0, none⟩)), (5, .pointer (some ⟨b38, 0, none⟩)), (4, .bool false), (3, .pointer (some ⟨b8, 0, none⟩)), (2, .pointer (some ⟨b3, 0, none⟩))] h75 ((Kw.nil hB72).cons (hE5.below hB72.bel)) fun q76 h77 => ?_
  clear h75
  refine sC 1 25 h77 gok_none (c36 i A29 cp30 _ w71 (by omega) ho73) ?_
  rintro _ w82 ⟨A80, cp81, rfl, ho86, hb83⟩
  have ho85 := own_base ho86 hB72.bel.size
  have hB84 := hB72.call hb83
  have ho87 := own_below ho73 hb83
  have ho88 := own_below ho74 hb83
  refine ⟨_, rfl, trivial, fun q78 h79 => ?_⟩
  clear h77 hB72 hb83
  refine b0 (.C 2 23 <| .E 3 26 (insV (nrmP i).1 A80 cp81) <| .E 4 27 (.int .i64 ((nrmP i).2)) <| .nil) [(27, .int .i64 ((nrmP i).2)), (26, insV (nrmP i).1 A80 cp81), (6, .pointer (some ⟨b64, 0, none⟩)), (5, .pointer (some ⟨b38, 0, none⟩)), (4, .bool false), (3, .pointer (some ⟨b8, 0, none⟩)), (2, .pointer (some ⟨b3, 0, none⟩))] h79 (Kw.nil hB84) fun q89 h90 => ?_
  clear h79
  refine sA 5 7 (fun b => .pointer (some ⟨b, 0, none⟩)) (.cells #[.string (⟨#[]⟩ : ByteArray), .int .i64 0, .string (⟨#[]⟩ : ByteArray), .string (⟨#[]⟩ : ByteArray), .int .i64 0, .string (⟨#[]⟩ : ByteArray), .int .i64 0, .int .i64 0, .int .i64 0, .int .i64 0, .int .i64 0, .bool false, .int .i64 0, .bool false, .bool false, .slice none 0 0] 29 (0, 0)) h90 gok_none hB84 (fun _ _ hq => trivial) (fun b93 w94 hB95 hN q91 h92 => ?_)
  have ho96 := own_below ho87 hN
  have ho97 := own_below ho88 hN
  have ho98 := own_below ho85 hN
  clear h90 hB84 hN
  refine sW 6 0 0 [(b93, .cells (insV (nrmP i).1 A80 cp81).cells 29 (0, 0)), (b64, .cells (insV i A54 cp55).cells 29 (0, 0))] h92 gok_none hB95 (.inr fun _ _ => trivial) (fun w101 hB102 hT q99 h100 => ?_)
  clear h92 hB95
  have ho103 := own_turned ho96 hT (by kernel_rfl)
  have ho104 := own_turned ho97 hT (by kernel_rfl)
  have ho105 := own_turned ho98 hT (by kernel_rfl)
  clear hT
  refine b0 (.C 7 8 <| .nil) [(7, .pointer (some ⟨b93, 0, none⟩)), (6, .pointer (some ⟨b64, 0, none⟩)), (5, .pointer (some ⟨b38, 0, none⟩)), (4, .bool false), (3, .pointer (some ⟨b8, 0, none⟩)), (2, .pointer (some ⟨b3, 0, none⟩))] h100 (Kw.nil hB102) fun q106 h107 => ?_
  clear h100
  refine wpO_end ?_
  refine then_n ?_
  refine kS ?_
  refine c_cut (fun qa qw => ∃ (A127 : Option Addr) (cp128 : Nat) (b145 : Nat), Fr 90 [(9, .pointer (some ⟨b145, 0, none⟩)), (7, .pointer (some ⟨b93, 0, none⟩)), (6, .pointer (some ⟨b64, 0, none⟩)), (5, .pointer (some ⟨b38, 0, none⟩)), (4, .bool false), (2, .pointer (some ⟨b3, 0, none⟩))] qa ∧ Bx w44 [(b145, .cells (insV (appP i m).1 A127 cp128).cells 29 (0, 0)), (b93, .cells (insV (nrmP i).1 A80 cp81).cells 29 (0, 0)), (b64, .cells (insV i A54 cp55).cells 29 (0, 0))] qw ∧ World.ownsRow qw 0 66 2 (.slice A29 i.links.length cp30) i.links.length (lkc i.links) ∧ World.ownsRow qw w44.heap.size 66 2 (.slice A54 i.links.length cp55) i.links.length (lkc i.links) ∧ World.ownsRow qw w44.heap.size 66 2 (.slice A80 ((nrmP i).1.links.length) cp81) ((nrmP i).1.links.length) (lkc (nrmP i).1.links) ∧ World.ownsRow qw w44.heap.size 66 2 (.slice A127 ((appP i m).1.links.length) cp128) ((appP i m).1.links.length) (lkc (appP i m).1.links)) ?_ ?_
  ·
    have hD162 := hB102.drew
    refine reg_plan (S := Bx w44 [(b93, .cells (insV (nrmP i).1 A80 cp81).cells 29 (0, 0)), (b64, .cells (insV i A54 cp55).cells 29 (0, 0))]) 10 [⟨0, true, 0, 32, 536870912⟩, ⟨1, true, 0, 8, 1073741824⟩, ⟨2, false, 2, 1073741824, 2147483648⟩, ⟨3, false, 5, 2684354560, 4294967296⟩, ⟨4, true, 8, 4294967296, 268435456⟩, ⟨5, true, 16, 268435456, 8589934592⟩, ⟨6, true, 16, 268435456, 17179869184⟩, ⟨7, false, 0, 0, 512⟩, ⟨8, false, 191, 8589935104, 0⟩, ⟨9, true, 511, 17179869184, 1024⟩] (.free ⟨0, true, 0, 32, 536870912⟩ (.free ⟨1, true, 0, 8, 1073741824⟩ (.alt ⟨2, false, 2, 1073741824, 2147483648⟩ (.alt ⟨3, false, 5, 2684354560, 4294967296⟩ (.free ⟨4, true, 8, 4294967296, 268435456⟩ (.free ⟨5, true, 16, 268435456, 8589934592⟩ (.free ⟨6, true, 16, 268435456, 17179869184⟩ (.alt ⟨7, false, 0, 0, 512⟩ (.alt ⟨8, false, 191, 8589935104, 0⟩ (.free ⟨9, true, 511, 17179869184, 1024⟩ (.done)) (.none)) (.none))))) (.alt ⟨7, false, 0, 0, 512⟩ (.alt ⟨3, false, 5, 2684354560, 4294967296⟩ (.free ⟨4, true, 8, 4294967296, 268435456⟩ (.free ⟨5, true, 16, 268435456, 8589934592⟩ (.free ⟨6, true, 16, 268435456, 17179869184⟩ (.alt ⟨8, false, 191, 8589935104, 0⟩ (.free ⟨9, true, 511, 17179869184, 1024⟩ (.done)) (.none))))) (.none)) (.none))) (.alt ⟨7, false, 0, 0, 512⟩ (.alt ⟨2, false, 2, 1073741824, 2147483648⟩ (.alt ⟨3, false, 5, 2684354560, 4294967296⟩ (.free ⟨4, true, 8, 4294967296, 268435456⟩ (.free ⟨5, true, 16, 268435456, 8589934592⟩ (.free ⟨6, true, 16, 268435456, 17179869184⟩ (.alt ⟨8, false, 191, 8589935104, 0⟩ (.free ⟨9, true, 511, 17179869184, 1024⟩ (.done)) (.none))))) (.none)) (.none)) (.none))))) (by kernel_rfl) (by kernel_rfl) (by kernel_rfl) (fun _ _ _ _ h => absurd h.2 (by simp)) hD162 ?_
    have ho163 := own_drew ho103
    have ho164 := own_drew ho104
    have ho165 := own_drew ho105
    generalize World.drew w101 = w166 at hD162 ho163 ho164 ho165 ⊢
    refine p_free ?_
    refine fE 0 29 (.load 29 (.tmp 5)) 29 (insV i A29 cp30) h107 (hr := fun _ hS => r_loadE (ad := ⟨b38, 0, none⟩) (o := 0) (vs := [.string i.ref, .int .i64 i.kind, .string i.sender, .string i.cpty, .int .i64 i.side, .string i.asset, .int .i64 i.qty, .int .i64 i.amt, .int .i64 i.tday, .int .i64 i.sday, .int .i64 i.prio, .bool i.part, .int .i64 i.minlot, .bool i.hold, .bool i.resv, .slice A29 i.links.length cp30]) (hE5.below hS.bel) (by kernel_rfl) (by kernel_rfl) (by kernel_rfl)) fun q167 h168 => ?_
    clear h107
    refine wpO_end ?_
    refine cut_n ?_
    refine p_free ?_
    refine fE 1 30 (.load 40 (.tmp 3)) 40 (amV m) h168 (hr := fun _ hS => r_loadE (ad := ⟨b8, 0, none⟩) (o := 0) (vs := [.bool m.hasAmt, .bool m.hasDay, .bool m.hasPrio, .bool m.hasPart, .int .i64 m.amt, .int .i64 m.sday, .int .i64 m.prio, .bool m.part, .int .i64 m.minlot]) (hE3.below hS.bel) (by kernel_rfl) (by kernel_rfl) (by kernel_rfl)) fun q169 h170 => ?_
    clear h168
    refine wpO_end ?_
    refine cut_n ?_
    refine p_alt ?_ ?_
    ·
      refine sC 2 31 h170 gok_none (c30 m w166) ?_
      rintro _ w173 ⟨rfl, hb174⟩
      have hB175 := hD162.call hb174
      have ho176 := own_below ho163 hb174
      have ho177 := own_below ho164 hb174
      have ho178 := own_below ho165 hb174
      refine ⟨_, rfl, hB175, fun q171 h172 => ?_⟩
      clear h170 hD162 hb174
      refine wpO_end ?_
      refine cut_n ?_
      refine p_alt ?_ ?_
      ·
        refine sC 3 32 h172 gok_none (c33 i m A29 cp30 _ w173 (by omega) ho176) ?_
        rintro _ w183 ⟨A181, cp182, rfl, ho187, hb184⟩
        have ho186 := own_base ho187 hB175.bel.size
        have hB185 := hB175.call hb184
        have ho188 := own_below ho176 hb184
        have ho189 := own_below ho177 hb184
        have ho190 := own_below ho178 hb184
        refine ⟨_, rfl, hB185, fun q179 h180 => ?_⟩
        clear h172 hB175 hb184
        refine wpO_end ?_
        refine cut_n ?_
        refine p_free ?_
        refine fE 4 28 (.move (.tmp 32)) 55 (.tuple #[insV (appP i m).1 A181 cp182, .int .i64 ((appP i m).2)]) h180 fun q191 h192 => ?_
        clear h180
        refine wpO_end ?_
        refine cut_n ?_
        refine p_free ?_
        refine fE 5 33 (.extract (.tmp 28) 0) 29 (insV (appP i m).1 A181 cp182) h192 fun q193 h194 => ?_
        clear h192
        refine wpO_end ?_
        refine cut_n ?_
        refine p_free ?_
        refine fE 6 34 (.extract (.tmp 28) 1) 26 (.int .i64 ((appP i m).2)) h194 fun q195 h196 => ?_
        clear h194
        refine wpO_end ?_
        refine cut_n ?_
        refine p_alt ?_ ?_
        ·
          refine sA 7 9 (fun b => .pointer (some ⟨b, 0, none⟩)) (.cells #[.string (⟨#[]⟩ : ByteArray), .int .i64 0, .string (⟨#[]⟩ : ByteArray), .string (⟨#[]⟩ : ByteArray), .int .i64 0, .string (⟨#[]⟩ : ByteArray), .int .i64 0, .int .i64 0, .int .i64 0, .int .i64 0, .int .i64 0, .bool false, .int .i64 0, .bool false, .bool false, .slice none 0 0] 29 (0, 0)) h196 gok_none hB185 (fun _ _ hq => hq.tail) (fun b199 w200 hB201 hN q197 h198 => ?_)
          have ho202 := own_below ho188 hN
          have ho203 := own_below ho189 hN
          have ho204 := own_below ho190 hN
          have ho205 := own_below ho186 hN
          clear h196 hB185 hN
          refine wpO_end ?_
          refine cut_n ?_
          refine p_alt ?_ ?_
          ·
            refine sW 8 0 0 [(b199, .cells (insV (appP i m).1 A181 cp182).cells 29 (0, 0)), (b93, .cells (insV (nrmP i).1 A80 cp81).cells 29 (0, 0)), (b64, .cells (insV i A54 cp55).cells 29 (0, 0))] h198 gok_none hB201 (.inr fun _ hq => hq.tail) (fun w208 hB209 hT q206 h207 => ?_)
            clear h198 hB201
            have ho210 := own_turned ho202 hT (by kernel_rfl)
            have ho211 := own_turned ho203 hT (by kernel_rfl)
            have ho212 := own_turned ho204 hT (by kernel_rfl)
            have ho213 := own_turned ho205 hT (by kernel_rfl)
            clear hT
            refine wpO_end ?_
            refine cut_n ?_
            refine p_free ?_
            refine fE 9 10 (.assign (.tmp 34)) 26 (.int .i64 ((appP i m).2)) h207 fun q214 h215 => ?_
            clear h207
            refine wpO_end ?_
            refine cut_n ?_
            refine p_done ?_
            exact cut_n ⟨A181, cp182, b199, h215.keep _ ⟨rfl, rfl, rfl, rfl, rfl, rfl, trivial⟩, hB209.sel [0, 1, 2] (by decide) rfl, ho210, ho211, ho212, ho213⟩
          exact p_none
        exact p_none
      refine p_alt ?_ ?_
      ·
        refine sA 7 9 (fun b => .pointer (some ⟨b, 0, none⟩)) (.cells #[.string (⟨#[]⟩ : ByteArray), .int .i64 0, .string (⟨#[]⟩ : ByteArray), .string (⟨#[]⟩ : ByteArray), .int .i64 0, .string (⟨#[]⟩ : ByteArray), .int .i64 0, .int .i64 0, .int .i64 0, .int .i64 0, .int .i64 0, .bool false, .int .i64 0, .bool false, .bool false, .slice none 0 0] 29 (0, 0)) h172 gok_none hB175 (fun _ _ hq => hq.tail) (fun b218 w219 hB220 hN q216 h217 => ?_)
        have ho221 := own_below ho176 hN
        have ho222 := own_below ho177 hN
        have ho223 := own_below ho178 hN
        clear h172 hB175 hN
        refine wpO_end ?_
        refine cut_n ?_
        refine p_alt ?_ ?_
        ·
          refine sC 3 32 h217 gok_none (c33 i m A29 cp30 _ w219 (by omega) ho221) ?_
          rintro _ w228 ⟨A226, cp227, rfl, ho232, hb229⟩
          have ho231 := own_base ho232 hB220.bel.size
          have hB230 := hB220.call hb229
          have ho233 := own_below ho221 hb229
          have ho234 := own_below ho222 hb229
          have ho235 := own_below ho223 hb229
          refine ⟨_, rfl, hB230.tail, fun q224 h225 => ?_⟩
          clear h217 hB220 hb229
          refine wpO_end ?_
          refine cut_n ?_
          refine p_free ?_
          refine fE 4 28 (.move (.tmp 32)) 55 (.tuple #[insV (appP i m).1 A226 cp227, .int .i64 ((appP i m).2)]) h225 fun q236 h237 => ?_
          clear h225
          refine wpO_end ?_
          refine cut_n ?_
          refine p_free ?_
          refine fE 5 33 (.extract (.tmp 28) 0) 29 (insV (appP i m).1 A226 cp227) h237 fun q238 h239 => ?_
          clear h237
          refine wpO_end ?_
          refine cut_n ?_
          refine p_free ?_
          refine fE 6 34 (.extract (.tmp 28) 1) 26 (.int .i64 ((appP i m).2)) h239 fun q240 h241 => ?_
          clear h239
          refine wpO_end ?_
          refine cut_n ?_
          refine p_alt ?_ ?_
          ·
            refine sW 8 0 0 [(b218, .cells (insV (appP i m).1 A226 cp227).cells 29 (0, 0)), (b93, .cells (insV (nrmP i).1 A80 cp81).cells 29 (0, 0)), (b64, .cells (insV i A54 cp55).cells 29 (0, 0))] h241 gok_none hB230 (.inr fun _ hq => hq.tail) (fun w244 hB245 hT q242 h243 => ?_)
            clear h241 hB230
            have ho246 := own_turned ho233 hT (by kernel_rfl)
            have ho247 := own_turned ho234 hT (by kernel_rfl)
            have ho248 := own_turned ho235 hT (by kernel_rfl)
            have ho249 := own_turned ho231 hT (by kernel_rfl)
            clear hT
            refine wpO_end ?_
            refine cut_n ?_
            refine p_free ?_
            refine fE 9 10 (.assign (.tmp 34)) 26 (.int .i64 ((appP i m).2)) h243 fun q250 h251 => ?_
            clear h243
            refine wpO_end ?_
            refine cut_n ?_
            refine p_done ?_
            exact cut_n ⟨A226, cp227, b218, h251.keep _ ⟨rfl, rfl, rfl, rfl, rfl, rfl, trivial⟩, hB245.sel [0, 1, 2] (by decide) rfl, ho246, ho247, ho248, ho249⟩
          exact p_none
        exact p_none
      exact p_none
    refine p_alt ?_ ?_
    ·
      refine sA 7 9 (fun b => .pointer (some ⟨b, 0, none⟩)) (.cells #[.string (⟨#[]⟩ : ByteArray), .int .i64 0, .string (⟨#[]⟩ : ByteArray), .string (⟨#[]⟩ : ByteArray), .int .i64 0, .string (⟨#[]⟩ : ByteArray), .int .i64 0, .int .i64 0, .int .i64 0, .int .i64 0, .int .i64 0, .bool false, .int .i64 0, .bool false, .bool false, .slice none 0 0] 29 (0, 0)) h170 gok_none hD162 (fun _ _ hq => hq.tail) (fun b254 w255 hB256 hN q252 h253 => ?_)
      have ho257 := own_below ho163 hN
      have ho258 := own_below ho164 hN
      have ho259 := own_below ho165 hN
      clear h170 hD162 hN
      refine wpO_end ?_
      refine cut_n ?_
      refine p_alt ?_ ?_
      ·
        refine sC 2 31 h253 gok_none (c30 m w255) ?_
        rintro _ w262 ⟨rfl, hb263⟩
        have hB264 := hB256.call hb263
        have ho265 := own_below ho257 hb263
        have ho266 := own_below ho258 hb263
        have ho267 := own_below ho259 hb263
        refine ⟨_, rfl, hB264.tail, fun q260 h261 => ?_⟩
        clear h253 hB256 hb263
        refine wpO_end ?_
        refine cut_n ?_
        refine p_alt ?_ ?_
        ·
          refine sC 3 32 h261 gok_none (c33 i m A29 cp30 _ w262 (by omega) ho265) ?_
          rintro _ w272 ⟨A270, cp271, rfl, ho276, hb273⟩
          have ho275 := own_base ho276 hB264.bel.size
          have hB274 := hB264.call hb273
          have ho277 := own_below ho265 hb273
          have ho278 := own_below ho266 hb273
          have ho279 := own_below ho267 hb273
          refine ⟨_, rfl, hB274.tail, fun q268 h269 => ?_⟩
          clear h261 hB264 hb273
          refine wpO_end ?_
          refine cut_n ?_
          refine p_free ?_
          refine fE 4 28 (.move (.tmp 32)) 55 (.tuple #[insV (appP i m).1 A270 cp271, .int .i64 ((appP i m).2)]) h269 fun q280 h281 => ?_
          clear h269
          refine wpO_end ?_
          refine cut_n ?_
          refine p_free ?_
          refine fE 5 33 (.extract (.tmp 28) 0) 29 (insV (appP i m).1 A270 cp271) h281 fun q282 h283 => ?_
          clear h281
          refine wpO_end ?_
          refine cut_n ?_
          refine p_free ?_
          refine fE 6 34 (.extract (.tmp 28) 1) 26 (.int .i64 ((appP i m).2)) h283 fun q284 h285 => ?_
          clear h283
          refine wpO_end ?_
          refine cut_n ?_
          refine p_alt ?_ ?_
          ·
            refine sW 8 0 0 [(b254, .cells (insV (appP i m).1 A270 cp271).cells 29 (0, 0)), (b93, .cells (insV (nrmP i).1 A80 cp81).cells 29 (0, 0)), (b64, .cells (insV i A54 cp55).cells 29 (0, 0))] h285 gok_none hB274 (.inr fun _ hq => hq.tail) (fun w288 hB289 hT q286 h287 => ?_)
            clear h285 hB274
            have ho290 := own_turned ho277 hT (by kernel_rfl)
            have ho291 := own_turned ho278 hT (by kernel_rfl)
            have ho292 := own_turned ho279 hT (by kernel_rfl)
            have ho293 := own_turned ho275 hT (by kernel_rfl)
            clear hT
            refine wpO_end ?_
            refine cut_n ?_
            refine p_free ?_
            refine fE 9 10 (.assign (.tmp 34)) 26 (.int .i64 ((appP i m).2)) h287 fun q294 h295 => ?_
            clear h287
            refine wpO_end ?_
            refine cut_n ?_
            refine p_done ?_
            exact cut_n ⟨A270, cp271, b254, h295.keep _ ⟨rfl, rfl, rfl, rfl, rfl, rfl, trivial⟩, hB289.sel [0, 1, 2] (by decide) rfl, ho290, ho291, ho292, ho293⟩
          exact p_none
        exact p_none
      exact p_none
    exact p_none
  rintro q296 w297 ⟨A127, cp128, b145, h298, hB299, ho300, ho301, ho302, ho303⟩
  refine then_n ?_
  refine kS ?_
  refine rp 8 ?_
  refine b0 (.C 0 35 <| .L 1 36 2 15 <| .C 2 37 <| .L 3 38 1 15 <| .C 4 39 <| .L 5 40 0 15 <| .nil) [(40, .slice A127 ((appP i m).1.links.length) cp128), (38, .slice A80 ((nrmP i).1.links.length) cp81), (36, .slice A54 i.links.length cp55), (6, .pointer (some ⟨b64, 0, none⟩)), (5, .pointer (some ⟨b38, 0, none⟩)), (4, .bool false), (2, .pointer (some ⟨b3, 0, none⟩))] h298 (Kw.nil hB299) fun q304 h305 => ?_
  clear h298
  refine sA 6 41 (fun b => .slice (some ⟨b, 0, none⟩) 3 3) (.cells #[.slice A54 i.links.length cp55, .slice A80 ((nrmP i).1.links.length) cp81, .slice A127 ((appP i m).1.links.length) cp128] 27 (0, 0)) h305 gok_none hB299 (fun _ _ hq => trivial) (fun b308 w309 hB310 hN q306 h307 => ?_)
  have ho311 := own_below ho300 hN
  have ho312 := own_below ho301 hN
  have ho313 := own_below ho302 hN
  have ho314 := own_below ho303 hN
  clear h305 hB299 hN
  refine b0 (.C 7 11 <| .nil) [(11, .slice (some ⟨b308, 0, none⟩) 3 3), (6, .pointer (some ⟨b64, 0, none⟩)), (5, .pointer (some ⟨b38, 0, none⟩)), (4, .bool false), (2, .pointer (some ⟨b3, 0, none⟩))] h307 (Kw.nil hB310) fun q315 h316 => ?_
  clear h307
  refine wpO_end ?_
  refine then_n ?_
  refine kS ?_
  refine kS ?_
  refine rp 4 ?_
  refine b0 (.Y 0 42 0 0 16 <| .S 1 43 3 0 16 <| .nil) [(43, insV i A54 cp55), (42, insV i A29 cp30), (11, .slice (some ⟨b308, 0, none⟩) 3 3), (5, .pointer (some ⟨b38, 0, none⟩)), (4, .bool false), (2, .pointer (some ⟨b3, 0, none⟩))] h316 ((Kw.nil hB310).cons (hE5.below hB310.bel)) fun q317 h318 => ?_
  clear h316
  refine sC 2 44 h318 gok_none (c24 i i A29 A54 cp30 cp55 w309 (show i.links.length ≤ 4611686018427387904 by omega) (own_rr ho311) (own_rr ho312)) ?_
  rintro _ w321 ⟨rfl, hb322⟩
  have hB323 := hB310.call hb322
  have ho324 := own_below ho311 hb322
  have ho325 := own_below ho312 hb322
  have ho326 := own_below ho313 hb322
  have ho327 := own_below ho314 hb322
  refine ⟨_, rfl, trivial, fun q319 h320 => ?_⟩
  clear h318 hB310 hb322
  have h328 := h320.keep [(44, .bool true), (43, insV i A54 cp55), (42, insV i A29 cp30), (11, .slice (some ⟨b308, 0, none⟩) 3 3), (5, .pointer (some ⟨b38, 0, none⟩)), (4, .bool false), (2, .pointer (some ⟨b3, 0, none⟩))] ⟨look_bool rfl (ins_refl _), rfl, rfl, rfl, rfl, rfl, rfl, trivial⟩
  clear h320
  refine eE 3 45 (.unOp .not 4 (.tmp 44)) 4 (.bool (!true)) h328 fun q329 h330 => ?_
  clear h328
  have h331 := h330.keep [(45, .bool false), (44, .bool true), (43, insV i A54 cp55), (42, insV i A29 cp30), (11, .slice (some ⟨b308, 0, none⟩) 3 3), (5, .pointer (some ⟨b38, 0, none⟩)), (4, .bool false), (2, .pointer (some ⟨b3, 0, none⟩))] ⟨rfl, rfl, rfl, rfl, rfl, rfl, rfl, rfl, trivial⟩
  clear h330
  refine wpO_end ?_
  have h332 := h331.keep [(45, .bool false), (11, .slice (some ⟨b308, 0, none⟩) 3 3), (5, .pointer (some ⟨b38, 0, none⟩)), (4, .bool false), (2, .pointer (some ⟨b3, 0, none⟩))] ⟨rfl, rfl, rfl, rfl, rfl, trivial⟩
  clear h331
  refine then_n ?_
  refine kC 45 false h332 (fun e333 => Bool.noConfusion (e333.symm.trans (rfl))) (fun _ => ?_)
  refine c_skip (by kernel_rfl) ?_
  refine then_n ?_
  refine kS ?_
  refine kS ?_
  refine rp 1 ?_
  refine b0 (.C 0 12 <| .nil) [(12, .int .i64 0), (11, .slice (some ⟨b308, 0, none⟩) 3 3), (5, .pointer (some ⟨b38, 0, none⟩)), (4, .bool false), (2, .pointer (some ⟨b3, 0, none⟩))] h332 (Kw.nil hB323) fun q334 h335 => ?_
  clear h332
  refine wpO_end ?_
  refine then_n ?_
  refine c_block 0 (by kernel_rfl) ?_
  have hlen1 := ins_refl i
  have hB336 : Bx w44 [(b308, .cells #[.slice A54 i.links.length cp55, .slice A80 ((nrmP i).1.links.length) cp81, .slice A127 ((appP i m).1.links.length) cp128] 27 (0, 0))] w321 := hB323.sel [0] (by decide) rfl
  clear hB323
  refine c_loop (by kernel_rfl) (fun qa qw => ∃ k : Nat, (k ≤ 3) ∧ Fr 90 [(2, .pointer (some ⟨b3, 0, none⟩)), (5, .pointer (some ⟨b38, 0, none⟩)), (11, .slice (some ⟨b308, 0, none⟩) 3 3), (12, .int .i64 ((k : Nat) : Int))] qa ∧ Bx w44 [(b308, .cells #[.slice A54 i.links.length cp55, .slice A80 ((nrmP i).1.links.length) cp81, .slice A127 ((appP i m).1.links.length) cp128] 27 (0, 0))] qw ∧ (Rw3 qw w44.heap.size A54 A80 A127 i.links.length ((nrmP i).1.links.length) ((appP i m).1.links.length) (140737488351232 + k * 2000))) (fun qa _ => (((3 : Int)) - intAt qa 12).toNat) ⟨0, Nat.zero_le _, h335.keep _ ⟨rfl, rfl, rfl, rfl, trivial⟩, hB336, ⟨wt_own ho325 (by omega) hs, wt_own ho326 (by omega) (nrm_sized hs), wt_own ho327 (by omega) (app_sized hs)⟩⟩ ?_
  rintro q337 w338 ⟨k, hk341, h339, hB340, hx343⟩
  have hm342 := h339.int (k := 12) (kd := .i64) (z := ((k : Nat) : Int)) rfl
  clear h335 hB336
  refine kS ?_
  refine kS ?_
  refine rp 4 ?_
  refine b0 (.C 0 46 <| .C 1 47 <| .E 2 48 (.int .i64 3) <| .E 3 49 (.bool (decide (((k : Nat) : Int) < (3 : Int)))) <| .nil) [(49, .bool (decide (((k : Nat) : Int) < (3 : Int)))), (48, .int .i64 3), (47, .slice (some ⟨b308, 0, none⟩) 3 3), (46, .int .i64 ((k : Nat) : Int)), (2, .pointer (some ⟨b3, 0, none⟩)), (5, .pointer (some ⟨b38, 0, none⟩)), (11, .slice (some ⟨b308, 0, none⟩) 3 3), (12, .int .i64 ((k : Nat) : Int))] h339 (Kw.nil hB340) fun q344 h345 => ?_
  clear h339
  refine wpO_end ?_
  refine then_n ?_
  refine kC 49 (decide (((k : Nat) : Int) < (3 : Int))) h345 (fun hc346 => ?_) (fun hc346 => ?_)
  ·
    have hp347 : (((k : Nat) : Int) < (3 : Int)) := of_decide_eq_true hc346
    have hk3 : k < 3 := by omega
    obtain ⟨A, n, c, hk, hsel⟩ := pick3 (B := w44.heap.size) (Ay := A54) (Az := A80) (Au := A127) (ny := i.links.length) (nz := ((nrmP i).1.links.length)) (nu := ((appP i m).1.links.length)) (cy := cp55) (cz := cp81) (cu := cp128) k hk3
    refine c_skip (by kernel_rfl) ?_
    refine then_n ?_
    refine kS ?_
    refine c_block 1 (by kernel_rfl) ?_
    refine kS ?_
    refine rp 1 ?_
    refine b0 (.C 0 13 <| .nil) [(13, .int .i64 0), (49, .bool (decide (((k : Nat) : Int) < (3 : Int)))), (48, .int .i64 3), (47, .slice (some ⟨b308, 0, none⟩) 3 3), (46, .int .i64 ((k : Nat) : Int)), (2, .pointer (some ⟨b3, 0, none⟩)), (5, .pointer (some ⟨b38, 0, none⟩)), (11, .slice (some ⟨b308, 0, none⟩) 3 3), (12, .int .i64 ((k : Nat) : Int))] h345 (Kw.nil hB340) fun q348 h349 => ?_
    clear h345
    refine wpO_end ?_
    refine then_n ?_
    refine c_block 2 (by kernel_rfl) ?_
    refine c_loop (by kernel_rfl) (fun qa qw => ∃ mm : Nat, (mm ≤ n) ∧ Fr 90 [(2, .pointer (some ⟨b3, 0, none⟩)), (5, .pointer (some ⟨b38, 0, none⟩)), (11, .slice (some ⟨b308, 0, none⟩) 3 3), (12, .int .i64 ((k : Nat) : Int)), (13, .int .i64 ((mm : Nat) : Int))] qa ∧ Bx w44 [(b308, .cells #[.slice A54 i.links.length cp55, .slice A80 ((nrmP i).1.links.length) cp81, .slice A127 ((appP i m).1.links.length) cp128] 27 (0, 0))] qw ∧ (Rw3 qw w44.heap.size A54 A80 A127 i.links.length ((nrmP i).1.links.length) ((appP i m).1.links.length) (140737488351232 + k * 2000 + mm * 2))) (fun qa _ => ((((n : Nat) : Int)) - intAt qa 13).toNat) ⟨0, Nat.zero_le _, h349.keep _ ⟨rfl, rfl, rfl, rfl, rfl, trivial⟩, hB340, rw3_mono hx343 (by omega)⟩ ?_
    rintro q350 w351 ⟨mm, hk354, h352, hB353, hx356⟩
    have hm355 := h352.int (k := 13) (kd := .i64) (z := ((mm : Nat) : Int)) rfl
    clear h349 hB340
    have hn1 := (hsel _ _ hx356).1
    refine kS ?_
    refine kS ?_
    refine rp 7 ?_
    refine b0 (.C 0 52 <| .C 1 53 <| .C 2 54 <| .nil) [(54, .int .i64 ((k : Nat) : Int)), (53, .slice (some ⟨b308, 0, none⟩) 3 3), (52, .int .i64 ((mm : Nat) : Int)), (2, .pointer (some ⟨b3, 0, none⟩)), (5, .pointer (some ⟨b38, 0, none⟩)), (11, .slice (some ⟨b308, 0, none⟩) 3 3), (12, .int .i64 ((k : Nat) : Int)), (13, .int .i64 ((mm : Nat) : Int))] h352 (Kw.nil hB353) fun q357 h358 => ?_
    clear h352
    refine eE 3 55 (.indexAddr 64 (.tmp 53) (.tmp 54)) 0 (.pointer (some (((⟨b308, 0, none⟩ : Addr).add (k * 1)).add 0))) h358 (hr := r_index0 (n := 3) (c := 3) (kd := .i64) (by kernel_rfl) (by kernel_rfl) hk3 (by kernel_rfl)) fun q359 h360 => ?_
    clear h358
    refine b0 (.X 4 56 0 0 <| .E 5 57 (.int .i64 ((n : Nat) : Int)) <| .E 6 58 (.bool (decide (((mm : Nat) : Int) < ((n : Nat) : Int)))) <| .nil) [(58, .bool (decide (((mm : Nat) : Int) < ((n : Nat) : Int)))), (57, .int .i64 ((n : Nat) : Int)), (56, .slice A n c), (55, .pointer (some (((⟨b308, 0, none⟩ : Addr).add (k * 1)).add 0))), (54, .int .i64 ((k : Nat) : Int)), (53, .slice (some ⟨b308, 0, none⟩) 3 3), (52, .int .i64 ((mm : Nat) : Int)), (2, .pointer (some ⟨b3, 0, none⟩)), (5, .pointer (some ⟨b38, 0, none⟩)), (11, .slice (some ⟨b308, 0, none⟩) 3 3), (12, .int .i64 ((k : Nat) : Int)), (13, .int .i64 ((mm : Nat) : Int))] h360 ((Kw.nil hB353).cons (el_blk (hB353.at 0 rfl) hk)) fun q361 h362 => ?_
    clear h360
    refine wpO_end ?_
    refine then_n ?_
    refine kC 58 (decide (((mm : Nat) : Int) < ((n : Nat) : Int))) h362 (fun hc363 => ?_) (fun hc363 => ?_)
    ·
      have hp364 : (((mm : Nat) : Int) < ((n : Nat) : Int)) := of_decide_eq_true hc363
      have hml : mm < n := by omega
      obtain ⟨g365, hA, hge, -⟩ := (hsel _ _ hx356).2 (by omega)
      subst hA
      refine c_skip (by kernel_rfl) ?_
      refine then_n ?_
      refine kS ?_
      refine c_block 3 (by kernel_rfl) ?_
      refine kS ?_
      obtain ⟨cur366, hcur369, hg372⟩ := (hsel _ _ hx356).2 (by omega) |>.elim fun g' h => (by obtain ⟨h1, -, h3⟩ := h; cases h1; exact h3 : WT _ g365 n (140737488351232 + k * 2000 + mm * 2))
      obtain ⟨⟨t367, ht370⟩, ⟨r368, hr371, hsz373⟩⟩ := hg372 mm hml
      refine rp 12 ?_
      refine b0 (.C 0 61 <| .C 1 62 <| .nil) [(62, .int .i64 ((k : Nat) : Int)), (61, .slice (some ⟨b308, 0, none⟩) 3 3), (58, .bool (decide (((mm : Nat) : Int) < ((n : Nat) : Int)))), (57, .int .i64 ((n : Nat) : Int)), (56, .slice (some ⟨g365, 0, none⟩) n c), (55, .pointer (some (((⟨b308, 0, none⟩ : Addr).add (k * 1)).add 0))), (54, .int .i64 ((k : Nat) : Int)), (53, .slice (some ⟨b308, 0, none⟩) 3 3), (52, .int .i64 ((mm : Nat) : Int)), (2, .pointer (some ⟨b3, 0, none⟩)), (5, .pointer (some ⟨b38, 0, none⟩)), (11, .slice (some ⟨b308, 0, none⟩) 3 3), (12, .int .i64 ((k : Nat) : Int)), (13, .int .i64 ((mm : Nat) : Int))] h362 (Kw.nil hB353) fun q374 h375 => ?_
      clear h362
      refine eE 2 63 (.indexAddr 64 (.tmp 61) (.tmp 62)) 0 (.pointer (some (((⟨b308, 0, none⟩ : Addr).add (k * 1)).add 0))) h375 (hr := r_index0 (n := 3) (c := 3) (kd := .i64) (by kernel_rfl) (by kernel_rfl) hk3 (by kernel_rfl)) fun q376 h377 => ?_
      clear h375
      refine b0 (.X 3 64 0 0 <| .C 4 65 <| .nil) [(65, .int .i64 ((mm : Nat) : Int)), (64, .slice (some ⟨g365, 0, none⟩) n c), (63, .pointer (some (((⟨b308, 0, none⟩ : Addr).add (k * 1)).add 0))), (62, .int .i64 ((k : Nat) : Int)), (61, .slice (some ⟨b308, 0, none⟩) 3 3), (58, .bool (decide (((mm : Nat) : Int) < ((n : Nat) : Int)))), (57, .int .i64 ((n : Nat) : Int)), (56, .slice (some ⟨g365, 0, none⟩) n c), (55, .pointer (some (((⟨b308, 0, none⟩ : Addr).add (k * 1)).add 0))), (54, .int .i64 ((k : Nat) : Int)), (53, .slice (some ⟨b308, 0, none⟩) 3 3), (52, .int .i64 ((mm : Nat) : Int)), (2, .pointer (some ⟨b3, 0, none⟩)), (5, .pointer (some ⟨b38, 0, none⟩)), (11, .slice (some ⟨b308, 0, none⟩) 3 3), (12, .int .i64 ((k : Nat) : Int)), (13, .int .i64 ((mm : Nat) : Int))] h377 ((Kw.nil hB353).cons (el_blk (hB353.at 0 rfl) hk)) fun q378 h379 => ?_
      clear h377
      refine eE 5 66 (.indexAddr 27 (.tmp 64) (.tmp 65)) 0 (.pointer (some (((⟨g365, 0, none⟩ : Addr).add (mm * 2)).add 0))) h379 (hr := r_index0 (n := n) (c := c) (kd := .i64) (by kernel_rfl) (by kernel_rfl) hml (by kernel_rfl)) fun q380 h381 => ?_
      clear h379
      refine b0 (.F 6 67 0 0 0 <| .X 7 68 0 0 <| .E 8 69 (.int .i64 (IntKind.i64.wrap (t367 + 5))) <| .nil) [(69, .int .i64 (IntKind.i64.wrap (t367 + 5))), (68, .int .i64 t367), (67, .pointer (some (((⟨g365, 0, none⟩ : Addr).add (mm * 2)).add 0))), (66, .pointer (some (((⟨g365, 0, none⟩ : Addr).add (mm * 2)).add 0))), (65, .int .i64 ((mm : Nat) : Int)), (64, .slice (some ⟨g365, 0, none⟩) n c), (63, .pointer (some (((⟨b308, 0, none⟩ : Addr).add (k * 1)).add 0))), (62, .int .i64 ((k : Nat) : Int)), (61, .slice (some ⟨b308, 0, none⟩) 3 3), (58, .bool (decide (((mm : Nat) : Int) < ((n : Nat) : Int)))), (57, .int .i64 ((n : Nat) : Int)), (56, .slice (some ⟨g365, 0, none⟩) n c), (55, .pointer (some (((⟨b308, 0, none⟩ : Addr).add (k * 1)).add 0))), (54, .int .i64 ((k : Nat) : Int)), (53, .slice (some ⟨b308, 0, none⟩) 3 3), (52, .int .i64 ((mm : Nat) : Int)), (2, .pointer (some ⟨b3, 0, none⟩)), (5, .pointer (some ⟨b38, 0, none⟩)), (11, .slice (some ⟨b308, 0, none⟩) 3 3), (12, .int .i64 ((k : Nat) : Int)), (13, .int .i64 ((mm : Nat) : Int))] h381 ((Kw.nil hB353).cons (el_wt hcur369 ht370 hr371)) fun q382 h383 => ?_
      clear h381
      refine eE 9 70 (.indexAddr 27 (.tmp 64) (.tmp 65)) 0 (.pointer (some (((⟨g365, 0, none⟩ : Addr).add (mm * 2)).add 0))) h383 (hr := r_index0 (n := n) (c := c) (kd := .i64) (by kernel_rfl) (by kernel_rfl) hml (by kernel_rfl)) fun q384 h385 => ?_
      clear h383
      refine b0 (.F 10 71 0 0 0 <| .nil) [(71, .pointer (some (((⟨g365, 0, none⟩ : Addr).add (mm * 2)).add 0))), (70, .pointer (some (((⟨g365, 0, none⟩ : Addr).add (mm * 2)).add 0))), (69, .int .i64 (IntKind.i64.wrap (t367 + 5))), (68, .int .i64 t367), (67, .pointer (some (((⟨g365, 0, none⟩ : Addr).add (mm * 2)).add 0))), (66, .pointer (some (((⟨g365, 0, none⟩ : Addr).add (mm * 2)).add 0))), (65, .int .i64 ((mm : Nat) : Int)), (64, .slice (some ⟨g365, 0, none⟩) n c), (63, .pointer (some (((⟨b308, 0, none⟩ : Addr).add (k * 1)).add 0))), (62, .int .i64 ((k : Nat) : Int)), (61, .slice (some ⟨b308, 0, none⟩) 3 3), (58, .bool (decide (((mm : Nat) : Int) < ((n : Nat) : Int)))), (57, .int .i64 ((n : Nat) : Int)), (56, .slice (some ⟨g365, 0, none⟩) n c), (55, .pointer (some (((⟨b308, 0, none⟩ : Addr).add (k * 1)).add 0))), (54, .int .i64 ((k : Nat) : Int)), (53, .slice (some ⟨b308, 0, none⟩) 3 3), (52, .int .i64 ((mm : Nat) : Int)), (2, .pointer (some ⟨b3, 0, none⟩)), (5, .pointer (some ⟨b38, 0, none⟩)), (11, .slice (some ⟨b308, 0, none⟩) 3 3), (12, .int .i64 ((k : Nat) : Int)), (13, .int .i64 ((mm : Nat) : Int))] h385 ((Kw.nil hB353).cons (el_wt hcur369 ht370 hr371)) fun q386 h387 => ?_
      clear h385
      refine stX (t := 3) (ty := 0) (x := Operand.tmp 71) (y := Operand.tmp 69) 11 (m := mm) (o := 0) (.int .i64 (IntKind.i64.wrap (t367 + 5))) h387 hcur369 (by have := (Array.getElem?_eq_some_iff.1 ht370).1; omega) (fun w390 hu391 q388 h389 => ?_) (by kernel_rfl) (by kernel_rfl) (by kernel_rfl) (by kernel_rfl) (by kernel_rfl) (by kernel_rfl)
      have hB392 := bx_upd hB353 hu391 hge (by kernel_rfl)
      have hR393 := rw3_upd hx356 hu391 (.inl ⟨mm, _, rfl, rfl⟩)
      clear h387 hB353 hu391
      refine wpO_end ?_
      refine then_n ?_
      obtain ⟨cur394, hcur397, hg400⟩ := (hsel _ _ hR393).2 (by omega) |>.elim fun g' h => (by obtain ⟨h1, -, h3⟩ := h; cases h1; exact h3 : WT _ g365 n ((140737488351232 + k * 2000 + mm * 2 + 1)))
      obtain ⟨⟨t395, ht398⟩, ⟨r396, hr399, hsz401⟩⟩ := hg400 mm hml
      refine rp 12 ?_
      refine b0 (.C 0 72 <| .C 1 73 <| .nil) [(73, .int .i64 ((k : Nat) : Int)), (72, .slice (some ⟨b308, 0, none⟩) 3 3), (71, .pointer (some (((⟨g365, 0, none⟩ : Addr).add (mm * 2)).add 0))), (70, .pointer (some (((⟨g365, 0, none⟩ : Addr).add (mm * 2)).add 0))), (69, .int .i64 (IntKind.i64.wrap (t367 + 5))), (68, .int .i64 t367), (67, .pointer (some (((⟨g365, 0, none⟩ : Addr).add (mm * 2)).add 0))), (66, .pointer (some (((⟨g365, 0, none⟩ : Addr).add (mm * 2)).add 0))), (65, .int .i64 ((mm : Nat) : Int)), (64, .slice (some ⟨g365, 0, none⟩) n c), (63, .pointer (some (((⟨b308, 0, none⟩ : Addr).add (k * 1)).add 0))), (62, .int .i64 ((k : Nat) : Int)), (61, .slice (some ⟨b308, 0, none⟩) 3 3), (58, .bool (decide (((mm : Nat) : Int) < ((n : Nat) : Int)))), (57, .int .i64 ((n : Nat) : Int)), (56, .slice (some ⟨g365, 0, none⟩) n c), (55, .pointer (some (((⟨b308, 0, none⟩ : Addr).add (k * 1)).add 0))), (54, .int .i64 ((k : Nat) : Int)), (53, .slice (some ⟨b308, 0, none⟩) 3 3), (52, .int .i64 ((mm : Nat) : Int)), (2, .pointer (some ⟨b3, 0, none⟩)), (5, .pointer (some ⟨b38, 0, none⟩)), (11, .slice (some ⟨b308, 0, none⟩) 3 3), (12, .int .i64 ((k : Nat) : Int)), (13, .int .i64 ((mm : Nat) : Int))] h389 (Kw.nil hB392) fun q402 h403 => ?_
      clear h389
      refine eE 2 74 (.indexAddr 64 (.tmp 72) (.tmp 73)) 0 (.pointer (some (((⟨b308, 0, none⟩ : Addr).add (k * 1)).add 0))) h403 (hr := r_index0 (n := 3) (c := 3) (kd := .i64) (by kernel_rfl) (by kernel_rfl) hk3 (by kernel_rfl)) fun q404 h405 => ?_
      clear h403
      refine b0 (.X 3 75 0 0 <| .C 4 76 <| .nil) [(76, .int .i64 ((mm : Nat) : Int)), (75, .slice (some ⟨g365, 0, none⟩) n c), (74, .pointer (some (((⟨b308, 0, none⟩ : Addr).add (k * 1)).add 0))), (73, .int .i64 ((k : Nat) : Int)), (72, .slice (some ⟨b308, 0, none⟩) 3 3), (71, .pointer (some (((⟨g365, 0, none⟩ : Addr).add (mm * 2)).add 0))), (70, .pointer (some (((⟨g365, 0, none⟩ : Addr).add (mm * 2)).add 0))), (69, .int .i64 (IntKind.i64.wrap (t367 + 5))), (68, .int .i64 t367), (67, .pointer (some (((⟨g365, 0, none⟩ : Addr).add (mm * 2)).add 0))), (66, .pointer (some (((⟨g365, 0, none⟩ : Addr).add (mm * 2)).add 0))), (65, .int .i64 ((mm : Nat) : Int)), (64, .slice (some ⟨g365, 0, none⟩) n c), (63, .pointer (some (((⟨b308, 0, none⟩ : Addr).add (k * 1)).add 0))), (62, .int .i64 ((k : Nat) : Int)), (61, .slice (some ⟨b308, 0, none⟩) 3 3), (58, .bool (decide (((mm : Nat) : Int) < ((n : Nat) : Int)))), (57, .int .i64 ((n : Nat) : Int)), (56, .slice (some ⟨g365, 0, none⟩) n c), (55, .pointer (some (((⟨b308, 0, none⟩ : Addr).add (k * 1)).add 0))), (54, .int .i64 ((k : Nat) : Int)), (53, .slice (some ⟨b308, 0, none⟩) 3 3), (52, .int .i64 ((mm : Nat) : Int)), (2, .pointer (some ⟨b3, 0, none⟩)), (5, .pointer (some ⟨b38, 0, none⟩)), (11, .slice (some ⟨b308, 0, none⟩) 3 3), (12, .int .i64 ((k : Nat) : Int)), (13, .int .i64 ((mm : Nat) : Int))] h405 ((Kw.nil hB392).cons (el_blk (hB392.at 0 rfl) hk)) fun q406 h407 => ?_
      clear h405
      refine eE 5 77 (.indexAddr 27 (.tmp 75) (.tmp 76)) 0 (.pointer (some (((⟨g365, 0, none⟩ : Addr).add (mm * 2)).add 0))) h407 (hr := r_index0 (n := n) (c := c) (kd := .i64) (by kernel_rfl) (by kernel_rfl) hml (by kernel_rfl)) fun q408 h409 => ?_
      clear h407
      refine b0 (.F 6 78 0 0 1 <| .X 7 79 0 1 <| .nil) [(79, .string r396), (78, .pointer (some (((⟨g365, 0, none⟩ : Addr).add (mm * 2)).add 1))), (77, .pointer (some (((⟨g365, 0, none⟩ : Addr).add (mm * 2)).add 0))), (76, .int .i64 ((mm : Nat) : Int)), (75, .slice (some ⟨g365, 0, none⟩) n c), (74, .pointer (some (((⟨b308, 0, none⟩ : Addr).add (k * 1)).add 0))), (73, .int .i64 ((k : Nat) : Int)), (72, .slice (some ⟨b308, 0, none⟩) 3 3), (71, .pointer (some (((⟨g365, 0, none⟩ : Addr).add (mm * 2)).add 0))), (70, .pointer (some (((⟨g365, 0, none⟩ : Addr).add (mm * 2)).add 0))), (69, .int .i64 (IntKind.i64.wrap (t367 + 5))), (68, .int .i64 t367), (67, .pointer (some (((⟨g365, 0, none⟩ : Addr).add (mm * 2)).add 0))), (66, .pointer (some (((⟨g365, 0, none⟩ : Addr).add (mm * 2)).add 0))), (65, .int .i64 ((mm : Nat) : Int)), (64, .slice (some ⟨g365, 0, none⟩) n c), (63, .pointer (some (((⟨b308, 0, none⟩ : Addr).add (k * 1)).add 0))), (62, .int .i64 ((k : Nat) : Int)), (61, .slice (some ⟨b308, 0, none⟩) 3 3), (58, .bool (decide (((mm : Nat) : Int) < ((n : Nat) : Int)))), (57, .int .i64 ((n : Nat) : Int)), (56, .slice (some ⟨g365, 0, none⟩) n c), (55, .pointer (some (((⟨b308, 0, none⟩ : Addr).add (k * 1)).add 0))), (54, .int .i64 ((k : Nat) : Int)), (53, .slice (some ⟨b308, 0, none⟩) 3 3), (52, .int .i64 ((mm : Nat) : Int)), (2, .pointer (some ⟨b3, 0, none⟩)), (5, .pointer (some ⟨b38, 0, none⟩)), (11, .slice (some ⟨b308, 0, none⟩) 3 3), (12, .int .i64 ((k : Nat) : Int)), (13, .int .i64 ((mm : Nat) : Int))] h409 ((Kw.nil hB392).cons (el_wt hcur397 ht398 hr399)) fun q410 h411 => ?_
      clear h409
      refine eE 8 80 (.binOp .add 9 (.tmp 79) (.const (.string { data := #[120] })) 9) 9 (.string (r396 ++ (⟨#[120]⟩ : ByteArray))) h411 (hr := r_concat (by kernel_rfl) (by kernel_rfl) (by have := hsz401; show r396.size + 1 ≤ _; omega)) fun q412 h413 => ?_
      clear h411
      refine eE 9 81 (.indexAddr 27 (.tmp 75) (.tmp 76)) 0 (.pointer (some (((⟨g365, 0, none⟩ : Addr).add (mm * 2)).add 0))) h413 (hr := r_index0 (n := n) (c := c) (kd := .i64) (by kernel_rfl) (by kernel_rfl) hml (by kernel_rfl)) fun q414 h415 => ?_
      clear h413
      refine b0 (.F 10 82 0 0 1 <| .nil) [(82, .pointer (some (((⟨g365, 0, none⟩ : Addr).add (mm * 2)).add 1))), (81, .pointer (some (((⟨g365, 0, none⟩ : Addr).add (mm * 2)).add 0))), (80, .string (r396 ++ (⟨#[120]⟩ : ByteArray))), (79, .string r396), (78, .pointer (some (((⟨g365, 0, none⟩ : Addr).add (mm * 2)).add 1))), (77, .pointer (some (((⟨g365, 0, none⟩ : Addr).add (mm * 2)).add 0))), (76, .int .i64 ((mm : Nat) : Int)), (75, .slice (some ⟨g365, 0, none⟩) n c), (74, .pointer (some (((⟨b308, 0, none⟩ : Addr).add (k * 1)).add 0))), (73, .int .i64 ((k : Nat) : Int)), (72, .slice (some ⟨b308, 0, none⟩) 3 3), (71, .pointer (some (((⟨g365, 0, none⟩ : Addr).add (mm * 2)).add 0))), (70, .pointer (some (((⟨g365, 0, none⟩ : Addr).add (mm * 2)).add 0))), (69, .int .i64 (IntKind.i64.wrap (t367 + 5))), (68, .int .i64 t367), (67, .pointer (some (((⟨g365, 0, none⟩ : Addr).add (mm * 2)).add 0))), (66, .pointer (some (((⟨g365, 0, none⟩ : Addr).add (mm * 2)).add 0))), (65, .int .i64 ((mm : Nat) : Int)), (64, .slice (some ⟨g365, 0, none⟩) n c), (63, .pointer (some (((⟨b308, 0, none⟩ : Addr).add (k * 1)).add 0))), (62, .int .i64 ((k : Nat) : Int)), (61, .slice (some ⟨b308, 0, none⟩) 3 3), (58, .bool (decide (((mm : Nat) : Int) < ((n : Nat) : Int)))), (57, .int .i64 ((n : Nat) : Int)), (56, .slice (some ⟨g365, 0, none⟩) n c), (55, .pointer (some (((⟨b308, 0, none⟩ : Addr).add (k * 1)).add 0))), (54, .int .i64 ((k : Nat) : Int)), (53, .slice (some ⟨b308, 0, none⟩) 3 3), (52, .int .i64 ((mm : Nat) : Int)), (2, .pointer (some ⟨b3, 0, none⟩)), (5, .pointer (some ⟨b38, 0, none⟩)), (11, .slice (some ⟨b308, 0, none⟩) 3 3), (12, .int .i64 ((k : Nat) : Int)), (13, .int .i64 ((mm : Nat) : Int))] h415 ((Kw.nil hB392).cons (el_wt hcur397 ht398 hr399)) fun q416 h417 => ?_
      clear h415
      refine stX (t := 9) (ty := 0) (x := Operand.tmp 82) (y := Operand.tmp 80) 11 (m := mm) (o := 1) (.string (r396 ++ (⟨#[120]⟩ : ByteArray))) h417 hcur397 (by have := (Array.getElem?_eq_some_iff.1 hr399).1; omega) (fun w420 hu421 q418 h419 => ?_) (by kernel_rfl) (by kernel_rfl) (by kernel_rfl) (by kernel_rfl) (by kernel_rfl) (by kernel_rfl)
      have hB422 := bx_upd hB392 hu421 hge (by kernel_rfl)
      have hR423 := rw3_upd hR393 hu421 (.inr ⟨mm, _, rfl, rfl, by rw [ByteArray.size_append]; exact Nat.add_le_add_right hsz401 1⟩)
      clear h417 hB392 hu421
      refine wpO_end ?_
      refine inB_n ?_
      refine then_n ?_
      refine rp 3 ?_
      refine b0 (.C 0 59 <| .E 1 60 (.int .i64 (IntKind.i64.wrap (((mm : Nat) : Int) + 1))) <| .C 2 13 <| .nil) [(13, .int .i64 (IntKind.i64.wrap (((mm : Nat) : Int) + 1))), (60, .int .i64 (IntKind.i64.wrap (((mm : Nat) : Int) + 1))), (59, .int .i64 ((mm : Nat) : Int)), (82, .pointer (some (((⟨g365, 0, none⟩ : Addr).add (mm * 2)).add 1))), (81, .pointer (some (((⟨g365, 0, none⟩ : Addr).add (mm * 2)).add 0))), (80, .string (r396 ++ (⟨#[120]⟩ : ByteArray))), (79, .string r396), (78, .pointer (some (((⟨g365, 0, none⟩ : Addr).add (mm * 2)).add 1))), (77, .pointer (some (((⟨g365, 0, none⟩ : Addr).add (mm * 2)).add 0))), (76, .int .i64 ((mm : Nat) : Int)), (75, .slice (some ⟨g365, 0, none⟩) n c), (74, .pointer (some (((⟨b308, 0, none⟩ : Addr).add (k * 1)).add 0))), (73, .int .i64 ((k : Nat) : Int)), (72, .slice (some ⟨b308, 0, none⟩) 3 3), (71, .pointer (some (((⟨g365, 0, none⟩ : Addr).add (mm * 2)).add 0))), (70, .pointer (some (((⟨g365, 0, none⟩ : Addr).add (mm * 2)).add 0))), (69, .int .i64 (IntKind.i64.wrap (t367 + 5))), (68, .int .i64 t367), (67, .pointer (some (((⟨g365, 0, none⟩ : Addr).add (mm * 2)).add 0))), (66, .pointer (some (((⟨g365, 0, none⟩ : Addr).add (mm * 2)).add 0))), (65, .int .i64 ((mm : Nat) : Int)), (64, .slice (some ⟨g365, 0, none⟩) n c), (63, .pointer (some (((⟨b308, 0, none⟩ : Addr).add (k * 1)).add 0))), (62, .int .i64 ((k : Nat) : Int)), (61, .slice (some ⟨b308, 0, none⟩) 3 3), (58, .bool (decide (((mm : Nat) : Int) < ((n : Nat) : Int)))), (57, .int .i64 ((n : Nat) : Int)), (56, .slice (some ⟨g365, 0, none⟩) n c), (55, .pointer (some (((⟨b308, 0, none⟩ : Addr).add (k * 1)).add 0))), (54, .int .i64 ((k : Nat) : Int)), (53, .slice (some ⟨b308, 0, none⟩) 3 3), (52, .int .i64 ((mm : Nat) : Int)), (2, .pointer (some ⟨b3, 0, none⟩)), (5, .pointer (some ⟨b38, 0, none⟩)), (11, .slice (some ⟨b308, 0, none⟩) 3 3), (12, .int .i64 ((k : Nat) : Int))] h419 (Kw.nil hB422) fun q424 h425 => ?_
      clear h419
      refine wpO_end ?_
      have h426 := h425.keep [(2, .pointer (some ⟨b3, 0, none⟩)), (5, .pointer (some ⟨b38, 0, none⟩)), (11, .slice (some ⟨b308, 0, none⟩) 3 3), (12, .int .i64 ((k : Nat) : Int)), (13, .int .i64 (((mm + 1) : Nat) : Int))] ⟨rfl, rfl, rfl, rfl, look_int rfl (wrap_succ (by omega)), trivial⟩
      have hm427 := h426.int (k := 13) (kd := .i64) (z := (((mm + 1) : Nat) : Int)) rfl
      refine then_n ⟨⟨mm + 1, by omega, h426, hB422, rw3_mono hR423 (by omega)⟩, ?_⟩
      show ((((n : Nat) : Int)) - intAt _ 13).toNat < ((((n : Nat) : Int)) - intAt _ 13).toNat
      rw [hm355, hm427]; omega
    have hp428 : ¬ (((mm : Nat) : Int) < ((n : Nat) : Int)) := of_decide_eq_false hc363
    refine c_exit 2 (by kernel_rfl) ?_
    refine then_e (then_e (inB_hit ?_))
    refine inB_n ?_
    refine then_n ?_
    refine rp 3 ?_
    refine b0 (.C 0 50 <| .E 1 51 (.int .i64 (IntKind.i64.wrap (((k : Nat) : Int) + 1))) <| .C 2 12 <| .nil) [(12, .int .i64 (IntKind.i64.wrap (((k : Nat) : Int) + 1))), (51, .int .i64 (IntKind.i64.wrap (((k : Nat) : Int) + 1))), (50, .int .i64 ((k : Nat) : Int)), (58, .bool (decide (((mm : Nat) : Int) < ((n : Nat) : Int)))), (57, .int .i64 ((n : Nat) : Int)), (56, .slice A n c), (55, .pointer (some (((⟨b308, 0, none⟩ : Addr).add (k * 1)).add 0))), (54, .int .i64 ((k : Nat) : Int)), (53, .slice (some ⟨b308, 0, none⟩) 3 3), (52, .int .i64 ((mm : Nat) : Int)), (2, .pointer (some ⟨b3, 0, none⟩)), (5, .pointer (some ⟨b38, 0, none⟩)), (11, .slice (some ⟨b308, 0, none⟩) 3 3), (13, .int .i64 ((mm : Nat) : Int))] h362 (Kw.nil hB353) fun q429 h430 => ?_
    clear h362
    refine wpO_end ?_
    have h431 := h430.keep [(2, .pointer (some ⟨b3, 0, none⟩)), (5, .pointer (some ⟨b38, 0, none⟩)), (11, .slice (some ⟨b308, 0, none⟩) 3 3), (12, .int .i64 (((k + 1) : Nat) : Int))] ⟨rfl, rfl, rfl, look_int rfl (wrap_succ (by omega)), trivial⟩
    have hm432 := h431.int (k := 12) (kd := .i64) (z := (((k + 1) : Nat) : Int)) rfl
    refine then_n ⟨⟨k + 1, by omega, h431, hB353, rw3_mono hx356 (by omega)⟩, ?_⟩
    show (((3 : Int)) - intAt _ 12).toNat < (((3 : Int)) - intAt _ 12).toNat
    rw [hm342, hm432]; omega
  have hp433 : ¬ (((k : Nat) : Int) < (3 : Int)) := of_decide_eq_false hc346
  refine c_exit 0 (by kernel_rfl) ?_
  refine then_e (then_e (inB_hit ?_))
  refine then_n ?_
  refine kS ?_
  have ho434 := own_below hx5 hB340.bel
  have hD435 := hB340.drew
  refine rd (Bx w44 [(b308, .cells #[.slice A54 i.links.length cp55, .slice A80 ((nrmP i).1.links.length) cp81, .slice A127 ((appP i m).1.links.length) cp128] 27 (0, 0))]) 8 [⟨0, true, 0, 32, 9671406556917033397649408⟩, ⟨2, true, 0, 4, 38685626227668133590597632⟩, ⟨1, false, 1, 9671406556917033397649408, 19342813113834066795298816⟩, ⟨3, false, 6, 58028439341502200385896448, 77371252455336267181195264⟩, ⟨4, true, 8, 77371252455336267181195264, 154742504910672534362390528⟩, ⟨5, false, 16, 154742504910672534362390528, 309485009821345068724781056⟩, ⟨6, true, 48, 464227514732017603087171584, 618970019642690137449562112⟩, ⟨7, true, 127, 618970019642690137449562112, 16⟩] hD435 ?_
  have ho436 := own_drew ho434
  generalize World.drew w338 = w437 at hD435 ho436 ⊢
  refine d0 (.Y 0 83 0 0 16 <| .Y 2 85 1 0 16 <| .nil) [(85, insV i A c), (83, insV i A29 cp30)] h345 (fun _ hS => ((Kw.nil hS).cons (hE2.below hS.bel)).cons (hE5.below hS.bel)) fun q438 h439 => ?_
  clear h345
  refine sC 1 84 h439 gok_none (c35 i A29 cp30 w437 (by omega) (own_rr ho436)) ?_
  rintro _ w444 ⟨A442, cp443, rfl, ho448, hb445⟩
  have ho447 := own_base ho448 hD435.bel.size
  have hB446 := hD435.call hb445
  have ho449 := own_below ho436 hb445
  refine ⟨_, rfl, hB446, fun q440 h441 => ?_⟩
  clear h439 hD435 hb445
  refine sC 3 86 h441 gok_none (c25 i i A442 A cp443 c w444 (show i.links.length ≤ 4611686018427387904 by omega) (own_rr ho447) (hr.below (hbl47.trans (hB446.bel.mono hbl47.size)))) ?_
  rintro _ w452 ⟨rfl, hb453⟩
  have hB454 := hB446.call hb453
  have ho455 := own_below ho449 hb453
  have ho456 := own_below ho447 hb453
  refine ⟨_, rfl, hB454, fun q450 h451 => ?_⟩
  clear h441 hB446 hb453
  have h457 := h451.keep [(86, .bool true), (84, insV i A442 cp443), (85, insV i A c), (83, insV i A29 cp30)] ⟨look_bool rfl (by rw [← same_eq]; exact ins_refl _), rfl, rfl, rfl, trivial⟩
  clear h451
  refine d0 (.C 4 87 <| .nil) [(87, .bool true)] h457 (fun _ hS => Kw.nil hS) fun q458 h459 => ?_
  clear h457
  refine sC 5 88 (g := (some (4, true))) h459 (g1 87 (rfl : true = true)) (c12 w452) ?_
  rintro _ w462 ⟨rfl, hb463⟩
  have hB464 := hB454.call hb463
  have ho465 := own_below ho455 hb463
  have ho466 := own_below ho456 hb463
  refine ⟨_, rfl, hB464, fun q460 h461 => ?_⟩
  clear h459 hB454 hb463
  refine d0 (.E 6 89 (.bool true) <| .C 7 4 <| .nil) [(4, .bool true)] h461 (fun _ hS => Kw.nil hS) fun q467 h468 => ?_
  clear h461
  refine wpO_end ?_
  refine then_n ?_
  refine c_ret (by kernel_rfl) ?_
  refine ret1 (t := 4) (v := .bool true) h468 (by kernel_rfl) (by kernel_rfl) ?_
  exact ⟨ret_eq (rfl), (hbl47.trans (hB464.bel.mono hbl47.size))⟩

end Go.Proofs.YtljegdokbifoiaaDoor.Af
