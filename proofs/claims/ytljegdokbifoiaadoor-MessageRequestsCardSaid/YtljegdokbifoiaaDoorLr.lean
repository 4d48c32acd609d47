/- The law of Requests. No condition but the argument's own. -/
import Derived.Test.YtljegdokbifoiaaDoorRsl
namespace Go.Proofs.YtljegdokbifoiaaDoor.Af
open Go.RowKit
set_option maxHeartbeats 4000000 in
set_option maxRecDepth 20000 in
theorem law7 (q : Rq) (A : Option Addr) (c : Nat) (w : World) (hr : Rd w A (lkc q.ins.links)) : Calls Tryd.prog 7 #[rqV q A c] w fun e w' => e = .returned (.bool true) ∧ Below w.heap.size w w' := by
  refine enter Tryd.func7 (by kernel_rfl) ?_ (by kernel_rfl)
  intro q0 h0
  replace h0 := h0.conv (l' := [(0, rqV q A c)]) rfl
  have hB := Bx.refl w
  refine kS ?_
  refine rp 2 ?_
  refine sA 0 1 (fun b => .pointer (some ⟨b, 0, none⟩)) (.cells (rqV q A c).cells 42 (0, 0)) h0 gok_none hB (fun _ _ hq => trivial) (fun b3 w4 hB5 hN q1 h2 => ?_)
  clear h0 hB hN
  refine b0 (.C 1 2 <| .nil) [(2, .bool false), (1, .pointer (some ⟨b3, 0, none⟩))] h2 (Kw.nil hB5) fun q6 h7 => ?_
  clear h2
  refine wpO_end ?_
  refine then_n ?_
  refine kS ?_
  refine kS ?_
  refine rp 5 ?_
  refine b0 (.C 0 3 <| .C 1 4 <| .L 2 5 0 18 <| .E 3 6 (.int .i64 ((q.ins.links.length : Nat) : Int)) <| .E 4 7 (.bool (decide ((40 : Int) < ((q.ins.links.length : Nat) : Int)))) <| .nil) [(7, .bool (decide ((40 : Int) < ((q.ins.links.length : Nat) : Int)))), (2, .bool false), (1, .pointer (some ⟨b3, 0, none⟩))] h7 (Kw.nil hB5) fun q8 h9 => ?_
  clear h7
  refine wpO_end ?_
  refine then_n ?_
  refine kC 7 (decide ((40 : Int) < ((q.ins.links.length : Nat) : Int))) h9 (fun hc10 => ?_) (fun hc10 => ?_)
  ·
    have hp11 : ((40 : Int) < ((q.ins.links.length : Nat) : Int)) := of_decide_eq_true hc10
    refine kS ?_
    refine rp 2 ?_
    refine sC 0 8 h9 gok_none (c12 w4) ?_
    rintro _ w14 ⟨rfl, hb15⟩
    have hB16 := hB5.call hb15
    refine ⟨_, rfl, trivial, fun q12 h13 => ?_⟩
    clear h9 hB5 hb15
    refine b0 (.C 1 2 <| .nil) [(2, .bool true), (1, .pointer (some ⟨b3, 0, none⟩))] h13 (Kw.nil hB16) fun q17 h18 => ?_
    clear h13
    refine wpO_end ?_
    refine then_n ?_
    refine c_ret (by kernel_rfl) ?_
    refine then_r ?_
    refine ret1 (t := 2) (v := .bool true) h18 (by kernel_rfl) (by kernel_rfl) ?_
    exact ⟨ret_eq (rfl), hB16.bel⟩
  have hp19 : ¬ ((40 : Int) < ((q.ins.links.length : Nat) : Int)) := of_decide_eq_false hc10
  refine c_skip (by kernel_rfl) ?_
  refine then_n ?_
  refine kS ?_
  have hD20 := hB5.drew
  refine rd (Bx w [(b3, .cells (rqV q A c).cells 42 (0, 0))]) 20 [⟨0, true, 0, 2, 512⟩, ⟨3, true, 0, 2, 4096⟩, ⟨1, false, 1, 512, 1024⟩, ⟨2, false, 2, 1024, 2048⟩, ⟨4, false, 12, 4096, 8192⟩, ⟨5, true, 20, 10240, 16384⟩, ⟨6, true, 48, 16384, 32768⟩, ⟨7, true, 64, 32770, 65536⟩, ⟨8, true, 192, 98304, 131072⟩, ⟨11, true, 64, 32770, 1048576⟩, ⟨12, true, 2112, 1081344, 2097152⟩, ⟨9, false, 320, 163840, 262144⟩, ⟨10, false, 576, 294912, 524288⟩, ⟨13, false, 5184, 2129920, 4194304⟩, ⟨14, true, 9280, 4751360, 8388608⟩, ⟨15, true, 16448, 8421376, 16777216⟩, ⟨16, true, 40960, 16777216, 33554432⟩, ⟨17, false, 65536, 33554432, 67108864⟩, ⟨18, true, 196608, 100663296, 134217728⟩, ⟨19, true, 524287, 134217728, 4⟩] hD20 ?_
  generalize World.drew w4 = w21 at hD20 ⊢
  refine d0 (.S 0 9 0 0 28 <| .S 3 12 0 0 28 <| .nil) [(12, rqV q A c), (9, rqV q A c), (2, .bool false), (1, .pointer (some ⟨b3, 0, none⟩))] h9 (fun _ hS => Kw.nil hS) fun q22 h23 => ?_
  clear h9
  refine sC 1 10 h23 gok_none (c23 q A c w21 (by omega) (hr.below hD20.bel)) ?_
  rintro _ w28 ⟨A26, c27, rfl, ho32, hb29⟩
  have ho31 := own_base ho32 hD20.bel.size
  have hB30 := hD20.call hb29
  refine ⟨_, rfl, hB30, fun q24 h25 => ?_⟩
  clear h23 hD20 hb29
  refine sC 2 11 h25 gok_none (c28 q A26 c27 w28 (show q.ins.links.length ≤ 4611686018427387904 by omega) (own_le ho31) (own_rr ho31)) ?_
  rintro _ w35 ⟨rfl, hb36⟩
  have hB37 := hB30.call hb36
  have ho38 := own_below ho31 hb36
  refine ⟨_, rfl, hB37, fun q33 h34 => ?_⟩
  clear h25 hB30 hb36
  refine sC 4 13 h34 gok_none (c29 q A c w35 (show q.ins.links.length ≤ 4611686018427387904 by omega) (hr.below hB37.bel)) ?_
  rintro _ w41 ⟨rfl, hb42⟩
  have hB43 := hB37.call hb42
  have ho44 := own_below ho38 hb42
  refine ⟨_, rfl, hB43, fun q39 h40 => ?_⟩
  clear h34 hB37 hb42
  refine fE 5 14 (.binOp .eql 3 (.tmp 11) (.tmp 13) 3) 4 (.bool (chkQ q == refQ q)) h40 fun q45 h46 => ?_
  clear h40
  have h47 := h46.keep [(14, .bool true), (13, .int .i64 (refQ q)), (11, .int .i64 (chkQ q)), (10, rqV q A26 c27), (12, rqV q A c), (9, rqV q A c), (2, .bool false), (1, .pointer (some ⟨b3, 0, none⟩))] ⟨look_bool rfl (by rw [chkQ_ref]; exact beq_self_eq_true _), rfl, rfl, rfl, rfl, rfl, rfl, rfl, trivial⟩
  clear h46
  refine d1 15 (rfl : true = true) (.C 6 15 <| .C 7 16 <| .S 8 17 0 19 9 <| .C 11 20 <| .S 12 21 0 19 9 <| .nil) [(21, amV q.am), (17, amV q.am), (15, .bool true), (2, .bool false)] h47 (fun _ hS => Kw.nil hS) fun q48 h49 => ?_
  clear h47
  refine sC 9 18 (g := (some (6, true))) h49 (g1 15 (rfl : true = true)) (c30 q.am w41) ?_
  rintro _ w52 ⟨rfl, hb53⟩
  have hB54 := hB43.call hb53
  have ho55 := own_below ho44 hb53
  refine ⟨_, rfl, hB54, fun q50 h51 => ?_⟩
  clear h49 hB43 hb53
  refine sC 10 19 (g := (some (6, true))) h51 (g1 15 (rfl : true = true)) (c31 q.am w52) ?_
  rintro _ w58 ⟨rfl, hb59⟩
  have hB60 := hB54.call hb59
  have ho61 := own_below ho55 hb59
  refine ⟨_, rfl, hB60, fun q56 h57 => ?_⟩
  clear h51 hB54 hb59
  refine sC 13 22 (g := (some (6, true))) h57 (g1 15 (rfl : true = true)) (c32 q.am w58) ?_
  rintro _ w64 ⟨rfl, hb65⟩
  have hB66 := hB60.call hb65
  have ho67 := own_below ho61 hb65
  refine ⟨_, rfl, hB66, fun q62 h63 => ?_⟩
  clear h57 hB60 hb65
  refine fG 14 23 (.binOp .eql 3 (.tmp 19) (.tmp 22) 3) 4 (6, true) (.bool (chkA q.am == refA q.am)) (g1 15 (rfl : true = true)) h63 fun q68 h69 => ?_
  clear h63
  have h70 := h69.keep [(23, .bool true), (22, .int .i64 (refA q.am)), (19, .int .i64 (chkA q.am)), (18, amV q.am), (21, amV q.am), (17, amV q.am), (15, .bool true), (2, .bool false)] ⟨look_bool rfl (by rw [chkA_ref]; exact beq_self_eq_true _), rfl, rfl, rfl, rfl, rfl, rfl, rfl, trivial⟩
  clear h69
  refine d0 (.E 15 24 (.bool true) <| .C 16 25 <| .nil) [(25, .bool true), (2, .bool false)] h70 (fun _ hS => Kw.nil hS) fun q71 h72 => ?_
  clear h70
  refine sC 17 26 (g := (some (16, true))) h72 (g1 25 (rfl : true = true)) (c12 w64) ?_
  rintro _ w75 ⟨rfl, hb76⟩
  have hB77 := hB66.call hb76
  have ho78 := own_below ho67 hb76
  refine ⟨_, rfl, hB77, fun q73 h74 => ?_⟩
  clear h72 hB66 hb76
  refine d0 (.E 18 27 (.bool true) <| .C 19 2 <| .nil) [(2, .bool true)] h74 (fun _ hS => Kw.nil hS) fun q79 h80 => ?_
  clear h74
  refine wpO_end ?_
  refine then_n ?_
  refine c_ret (by kernel_rfl) ?_
  refine ret1 (t := 2) (v := .bool true) h80 (by kernel_rfl) (by kernel_rfl) ?_
  exact ⟨ret_eq (rfl), hB77.bel⟩

end Go.Proofs.YtljegdokbifoiaaDoor.Af
