/- The reference's check of instructions. Short lists of links. -/
import Derived.Test.YtljegdokbifoiaaGreatDoorZzRkp
namespace Go.Proofs.YtljegdokbifoiaaGreatDoor.Af
open Go.RowKit
/-- The reference's rules but for the links. -/
def rules15 (i : Ins) : List (Bool × Int) := [((decide (i.kind < (0 : Int))) || (decide ((4 : Int) < i.kind)), 11), ((!(rfB i.ref)) || (!(memB i.sender)), 6), ((!(decide (i.kind < (3 : Int)))) && (i.cpty.toList != (⟨#[]⟩ : ByteArray).toList), 3), ((decide (i.kind < (3 : Int))) && (!(memB i.cpty)), 6), ((decide (i.kind < (3 : Int))) && (i.cpty.toList == i.sender.toList), 1), ((i.side != (0 : Int)) && (i.side != (1 : Int)), 11), ((!((i.kind == (1 : Int)) || (i.kind == (2 : Int)))) && (i.side != (0 : Int)), 3), (((i.kind == (0 : Int)) && (i.asset.toList != (⟨#[67, 65, 83, 72]⟩ : ByteArray).toList)) || ((decide ((0 : Int) < i.kind)) && (!(isinB i.asset))), 6), (((i.kind == (0 : Int)) && (i.qty != (0 : Int))) || ((decide ((0 : Int) < i.kind)) && ((decide (i.qty < (1 : Int))) || (decide ((1000000000000000 : Int) < i.qty)))), 2), (((decide (i.kind < (2 : Int))) && ((decide (i.amt < (1 : Int))) || (decide ((1000000000000000 : Int) < i.amt)))) || ((decide ((2 : Int) ≤ i.kind)) && (i.amt != (0 : Int))), 2), (((!(dayB i.sday)) || (((i.kind == (1 : Int)) || (i.kind == (2 : Int))) && ((decide (i.tday < (0 : Int))) || (decide (i.sday < i.tday))))) || ((!((i.kind == (1 : Int)) || (i.kind == (2 : Int)))) && (i.tday != (0 : Int))), 28), (((decide (i.prio < (0 : Int))) || (decide ((2 : Int) < i.prio))) || ((!(decide (i.kind < (3 : Int)))) && (i.prio != (0 : Int))), 2), (i.part && (!((i.kind == (1 : Int)) || (i.kind == (2 : Int)))), 3), ((i.part && ((decide (i.minlot < (1 : Int))) || (decide (i.qty < i.minlot)))) || ((!i.part) && (i.minlot != (0 : Int))), 2), (((i.hold && (!(decide (i.kind < (3 : Int))))) || (i.resv && ((i.kind != (0 : Int)) || (i.prio != (2 : Int))))) || ((!(decide (i.kind < (3 : Int)))) && (decide ((0 : Int) < ((i.links.length : Nat) : Int)))), 3), (decide ((8 : Int) < ((i.links.length : Nat) : Int)), 8)]
def refI (i : Ins) : Int := refTop (rules15 i) (refL i 0 i.links)

set_option maxHeartbeats 4000000 in
set_option maxRecDepth 20000 in
theorem c15 (i : Ins) (A : Option Addr) (c : Nat) (w : World) (hn : i.links.length ≤ 4611686018427387904) (hr : Rd w A (lkc i.links)) : Calls Tryz.prog 53 #[insV i A c] w fun e w' => e = .returned (.int .i64 (refI i)) ∧ Below w.heap.size w w' := by
  refine enter Tryz.func53 (by kernel_rfl) ?_ (by kernel_rfl)
  intro q0 h0
  replace h0 := h0.conv (l' := [(0, insV i A c)]) rfl
  have hB := Bx.refl w
  refine kS ?_
  refine rp 2 ?_
  refine sA 0 1 (fun b => .pointer (some ⟨b, 0, none⟩)) (.cells (insV i A c).cells 50 (0, 0)) h0 gok_none hB (fun _ _ hq => trivial) (fun b3 w4 hB5 hN q1 h2 => ?_)
  clear h0 hB hN
  refine b0 (.C 1 2 <| .nil) [(2, .int .i64 0), (1, .pointer (some ⟨b3, 0, none⟩))] h2 (Kw.nil hB5) fun q6 h7 => ?_
  clear h2
  refine wpO_end ?_
  refine then_n ?_
  refine kS ?_
  refine kS ?_
  refine rp 8 ?_
  refine b0 (.C 0 8 <| .L 1 9 0 1 <| .E 2 10 (.bool (decide (i.kind < (0 : Int)))) <| .C 3 11 <| .J 7 15 11 14 false (decide (i.kind < (0 : Int))) (decide ((4 : Int) < i.kind)) (.C 4 12 <| .L 5 13 0 1 <| .E 6 14 (.bool (decide ((4 : Int) < i.kind))) <| .nil) <| .nil) [(15, .bool ((decide (i.kind < (0 : Int))) || (decide ((4 : Int) < i.kind)))), (2, .int .i64 0), (1, .pointer (some ⟨b3, 0, none⟩))] h7 (Kw.nil hB5) fun q8 h9 => ?_
  clear h7
  refine wpO_end ?_
  refine then_n ?_
  refine kC 15 ((decide (i.kind < (0 : Int))) || (decide ((4 : Int) < i.kind))) h9 (fun hc10 => ?_) (fun hc10 => ?_)
  ·
    refine kS ?_
    refine rp 1 ?_
    refine b0 (.C 0 2 <| .nil) [(2, .int .i64 11), (1, .pointer (some ⟨b3, 0, none⟩))] h9 (Kw.nil hB5) fun q11 h12 => ?_
    clear h9
    refine wpO_end ?_
    refine then_n ?_
    refine c_ret (by kernel_rfl) ?_
    refine then_r ?_
    refine ret1 (t := 2) (v := .int .i64 11) h12 (by kernel_rfl) (by kernel_rfl) ?_
    exact ⟨ret_eq (congrArg (Value.int .i64) (show refI i = 11 from cT hc10).symm), hB5.bel⟩
  refine c_skip (by kernel_rfl) ?_
  refine then_n ?_
  refine kS ?_
  have hD13 := hB5.drew
  refine rd (Bx w [(b3, .cells (insV i A c).cells 50 (0, 0))]) 13 [⟨0, true, 0, 2, 65536⟩, ⟨1, true, 1, 65536, 131072⟩, ⟨2, true, 2, 131072, 262144⟩, ⟨3, true, 0, 2, 524288⟩, ⟨4, true, 8, 524288, 1048576⟩, ⟨5, true, 16, 1048576, 2097152⟩, ⟨6, true, 32, 2097152, 4194304⟩, ⟨7, true, 64, 4194306, 8388608⟩, ⟨8, true, 192, 12582912, 16777216⟩, ⟨9, true, 320, 20971520, 33554432⟩, ⟨10, true, 576, 37748736, 67108864⟩, ⟨11, true, 71, 262144, 8⟩, ⟨12, true, 4095, 67108864, 16⟩] hD13 ?_
  generalize World.drew w4 = w14 at hD13 ⊢
  refine d0 (.C 0 16 <| .L 1 17 0 1 <| .E 2 18 (.bool (decide (i.kind < (3 : Int)))) <| .C 3 19 <| .L 4 20 0 1 <| .E 5 21 (.bool (i.kind == (1 : Int))) <| .C 6 22 <| .J 10 26 22 25 false (i.kind == (1 : Int)) (i.kind == (2 : Int)) (.C 7 23 <| .L 8 24 0 1 <| .E 9 25 (.bool (i.kind == (2 : Int))) <| .nil) <| .C 11 3 <| .C 12 4 <| .nil) [(4, .bool ((i.kind == (1 : Int)) || (i.kind == (2 : Int)))), (3, .bool (decide (i.kind < (3 : Int)))), (2, .int .i64 0), (1, .pointer (some ⟨b3, 0, none⟩))] h9 (fun _ hS => Kw.nil hS) fun q15 h16 => ?_
  clear h9
  refine wpO_end ?_
  refine then_n ?_
  refine kS ?_
  refine kS ?_
  refine rp 10 ?_
  refine b0 (.C 0 27 <| .L 1 28 0 0 <| .nil) [(28, .string i.ref), (4, .bool ((i.kind == (1 : Int)) || (i.kind == (2 : Int)))), (3, .bool (decide (i.kind < (3 : Int)))), (2, .int .i64 0), (1, .pointer (some ⟨b3, 0, none⟩))] h16 (Kw.nil hD13) fun q17 h18 => ?_
  clear h16
  refine sC 2 29 h18 gok_none (c50_2 i.ref w14) ?_
  rintro _ w21 ⟨rfl, hb22⟩
  have hB23 := hD13.call hb22
  refine ⟨_, rfl, trivial, fun q19 h20 => ?_⟩
  clear h18 hD13 hb22
  refine b0 (.E 3 30 (.bool (!(rfB i.ref))) <| .C 4 31 <| .nil) [(31, .bool (!(rfB i.ref))), (4, .bool ((i.kind == (1 : Int)) || (i.kind == (2 : Int)))), (3, .bool (decide (i.kind < (3 : Int)))), (2, .int .i64 0), (1, .pointer (some ⟨b3, 0, none⟩))] h20 (Kw.nil hB23) fun q24 h25 => ?_
  clear h20
  refine wpO_cut [(5, false), (6, false), (7, false), (8, false), (9, false)] [] (fun qa qw => Fr 291 [(36, .bool ((!(rfB i.ref)) || (!(memB i.sender)))), (4, .bool ((i.kind == (1 : Int)) || (i.kind == (2 : Int)))), (3, .bool (decide (i.kind < (3 : Int)))), (2, .int .i64 0), (1, .pointer (some ⟨b3, 0, none⟩))] qa ∧ Bx w [(b3, .cells (insV i A c).cells 50 (0, 0))] qw) ?_ ?_
  ·
    rcases Bool.eq_false_or_eq_true (!(rfB i.ref)) with hc26 | hc26
    ·
      refine b1 31 hc26 (.K 5 32 <| .K 6 33 <| .K 7 34 <| .K 8 35 <| .nil) [(35, undef), (31, .bool (!(rfB i.ref))), (4, .bool ((i.kind == (1 : Int)) || (i.kind == (2 : Int)))), (3, .bool (decide (i.kind < (3 : Int)))), (2, .int .i64 0), (1, .pointer (some ⟨b3, 0, none⟩))] h25 (Kw.nil hB23) fun q27 h28 => ?_
      clear h25
      refine eE 9 36 (.pick (.tmp 31) (.const (.bool true)) (.tmp 35)) 4 (.bool ((!(rfB i.ref)) || (!(memB i.sender)))) h28 (hr := r_or (c := !(rfB i.ref)) (d := (!(memB i.sender))) (by kernel_rfl) (fun e31 => Bool.noConfusion (e31.symm.trans hc26))) fun q29 h30 => ?_
      clear h28
      exact ⟨h30.keep _ ⟨rfl, rfl, rfl, rfl, rfl, trivial⟩, hB23⟩
    ·
      refine b1 31 hc26 (.C 5 32 <| .L 6 33 0 2 <| .nil) [(33, .string i.sender), (31, .bool (!(rfB i.ref))), (4, .bool ((i.kind == (1 : Int)) || (i.kind == (2 : Int)))), (3, .bool (decide (i.kind < (3 : Int)))), (2, .int .i64 0), (1, .pointer (some ⟨b3, 0, none⟩))] h25 (Kw.nil hB23) fun q32 h33 => ?_
      clear h25
      refine sC 7 34 (g := (some (4, false))) h33 (g2 31 hc26) (c50_1 i.sender w21) ?_
      rintro _ w36 ⟨rfl, hb37⟩
      have hB38 := hB23.call hb37
      refine ⟨_, rfl, trivial, fun q34 h35 => ?_⟩
      clear h33 hB23 hb37
      refine b1 31 hc26 (.E 8 35 (.bool (!(memB i.sender))) <| .nil) [(35, .bool (!(memB i.sender))), (31, .bool (!(rfB i.ref))), (4, .bool ((i.kind == (1 : Int)) || (i.kind == (2 : Int)))), (3, .bool (decide (i.kind < (3 : Int)))), (2, .int .i64 0), (1, .pointer (some ⟨b3, 0, none⟩))] h35 (Kw.nil hB38) fun q39 h40 => ?_
      clear h35
      refine eE 9 36 (.pick (.tmp 31) (.const (.bool true)) (.tmp 35)) 4 (.bool ((!(rfB i.ref)) || (!(memB i.sender)))) h40 (hr := r_or (c := !(rfB i.ref)) (d := (!(memB i.sender))) (by kernel_rfl) (fun _ => by kernel_rfl)) fun q41 h42 => ?_
      clear h40
      exact ⟨h42.keep _ ⟨rfl, rfl, rfl, rfl, rfl, trivial⟩, hB38⟩
  rintro q43 w44 ⟨h45, hB46⟩
  refine wpO_end ?_
  refine then_n ?_
  refine kC 36 ((!(rfB i.ref)) || (!(memB i.sender))) h45 (fun hc47 => ?_) (fun hc47 => ?_)
  ·
    refine kS ?_
    refine rp 1 ?_
    refine b0 (.C 0 2 <| .nil) [(2, .int .i64 6), (4, .bool ((i.kind == (1 : Int)) || (i.kind == (2 : Int)))), (3, .bool (decide (i.kind < (3 : Int)))), (1, .pointer (some ⟨b3, 0, none⟩))] h45 (Kw.nil hB46) fun q48 h49 => ?_
    clear h45
    refine wpO_end ?_
    refine then_n ?_
    refine c_ret (by kernel_rfl) ?_
    refine then_r ?_
    refine ret1 (t := 2) (v := .int .i64 6) h49 (by kernel_rfl) (by kernel_rfl) ?_
    exact ⟨ret_eq (congrArg (Value.int .i64) (show refI i = 6 from (cF hc10).trans (cT hc47)).symm), hB46.bel⟩
  refine c_skip (by kernel_rfl) ?_
  refine then_n ?_
  refine kS ?_
  refine kS ?_
  refine rp 7 ?_
  refine b0 (.C 0 37 <| .E 1 38 (.bool (!(decide (i.kind < (3 : Int))))) <| .C 2 39 <| .J 6 43 39 42 true (!(decide (i.kind < (3 : Int)))) (i.cpty.toList != (⟨#[]⟩ : ByteArray).toList) (.C 3 40 <| .L 4 41 0 3 <| .E 5 42 (.bool (i.cpty.toList != (⟨#[]⟩ : ByteArray).toList)) <| .nil) <| .nil) [(43, .bool ((!(decide (i.kind < (3 : Int)))) && (i.cpty.toList != (⟨#[]⟩ : ByteArray).toList))), (4, .bool ((i.kind == (1 : Int)) || (i.kind == (2 : Int)))), (3, .bool (decide (i.kind < (3 : Int)))), (2, .int .i64 0), (1, .pointer (some ⟨b3, 0, none⟩))] h45 (Kw.nil hB46) fun q50 h51 => ?_
  clear h45
  refine wpO_end ?_
  refine then_n ?_
  refine kC 43 ((!(decide (i.kind < (3 : Int)))) && (i.cpty.toList != (⟨#[]⟩ : ByteArray).toList)) h51 (fun hc52 => ?_) (fun hc52 => ?_)
  ·
    refine kS ?_
    refine rp 1 ?_
    refine b0 (.C 0 2 <| .nil) [(2, .int .i64 3), (4, .bool ((i.kind == (1 : Int)) || (i.kind == (2 : Int)))), (3, .bool (decide (i.kind < (3 : Int)))), (1, .pointer (some ⟨b3, 0, none⟩))] h51 (Kw.nil hB46) fun q53 h54 => ?_
    clear h51
    refine wpO_end ?_
    refine then_n ?_
    refine c_ret (by kernel_rfl) ?_
    refine then_r ?_
    refine ret1 (t := 2) (v := .int .i64 3) h54 (by kernel_rfl) (by kernel_rfl) ?_
    exact ⟨ret_eq (congrArg (Value.int .i64) (show refI i = 3 from (cF hc10).trans ((cF hc47).trans (cT hc52))).symm), hB46.bel⟩
  refine c_skip (by kernel_rfl) ?_
  refine then_n ?_
  refine kS ?_
  refine kS ?_
  refine rp 7 ?_
  refine b0 (.C 0 44 <| .C 1 45 <| .nil) [(45, .bool (decide (i.kind < (3 : Int)))), (4, .bool ((i.kind == (1 : Int)) || (i.kind == (2 : Int)))), (3, .bool (decide (i.kind < (3 : Int)))), (2, .int .i64 0), (1, .pointer (some ⟨b3, 0, none⟩))] h51 (Kw.nil hB46) fun q55 h56 => ?_
  clear h51
  refine wpO_cut [(2, false), (3, false), (4, false), (5, false), (6, false)] [] (fun qa qw => Fr 291 [(50, .bool ((decide (i.kind < (3 : Int))) && (!(memB i.cpty)))), (4, .bool ((i.kind == (1 : Int)) || (i.kind == (2 : Int)))), (3, .bool (decide (i.kind < (3 : Int)))), (2, .int .i64 0), (1, .pointer (some ⟨b3, 0, none⟩))] qa ∧ Bx w [(b3, .cells (insV i A c).cells 50 (0, 0))] qw) ?_ ?_
  ·
    rcases Bool.eq_false_or_eq_true (decide (i.kind < (3 : Int))) with hc57 | hc57
    ·
      refine b1 45 hc57 (.C 2 46 <| .L 3 47 0 3 <| .nil) [(47, .string i.cpty), (45, .bool (decide (i.kind < (3 : Int)))), (4, .bool ((i.kind == (1 : Int)) || (i.kind == (2 : Int)))), (3, .bool (decide (i.kind < (3 : Int)))), (2, .int .i64 0), (1, .pointer (some ⟨b3, 0, none⟩))] h56 (Kw.nil hB46) fun q58 h59 => ?_
      clear h56
      refine sC 4 48 (g := (some (1, true))) h59 (g1 45 hc57) (c50_1 i.cpty w44) ?_
      rintro _ w62 ⟨rfl, hb63⟩
      have hB64 := hB46.call hb63
      refine ⟨_, rfl, trivial, fun q60 h61 => ?_⟩
      clear h59 hB46 hb63
      refine b1 45 hc57 (.E 5 49 (.bool (!(memB i.cpty))) <| .nil) [(49, .bool (!(memB i.cpty))), (45, .bool (decide (i.kind < (3 : Int)))), (4, .bool ((i.kind == (1 : Int)) || (i.kind == (2 : Int)))), (3, .bool (decide (i.kind < (3 : Int)))), (2, .int .i64 0), (1, .pointer (some ⟨b3, 0, none⟩))] h61 (Kw.nil hB64) fun q65 h66 => ?_
      clear h61
      refine eE 6 50 (.pick (.tmp 45) (.tmp 49) (.const (.bool false))) 4 (.bool ((decide (i.kind < (3 : Int))) && (!(memB i.cpty)))) h66 (hr := r_and (c := decide (i.kind < (3 : Int))) (d := (!(memB i.cpty))) (by kernel_rfl) (fun _ => by kernel_rfl)) fun q67 h68 => ?_
      clear h66
      exact ⟨h68.keep _ ⟨rfl, rfl, rfl, rfl, rfl, trivial⟩, hB64⟩
    ·
      refine b1 45 hc57 (.K 2 46 <| .K 3 47 <| .K 4 48 <| .K 5 49 <| .nil) [(49, undef), (45, .bool (decide (i.kind < (3 : Int)))), (4, .bool ((i.kind == (1 : Int)) || (i.kind == (2 : Int)))), (3, .bool (decide (i.kind < (3 : Int)))), (2, .int .i64 0), (1, .pointer (some ⟨b3, 0, none⟩))] h56 (Kw.nil hB46) fun q69 h70 => ?_
      clear h56
      refine eE 6 50 (.pick (.tmp 45) (.tmp 49) (.const (.bool false))) 4 (.bool ((decide (i.kind < (3 : Int))) && (!(memB i.cpty)))) h70 (hr := r_and (c := decide (i.kind < (3 : Int))) (d := (!(memB i.cpty))) (by kernel_rfl) (fun e73 => Bool.noConfusion (e73.symm.trans hc57))) fun q71 h72 => ?_
      clear h70
      exact ⟨h72.keep _ ⟨rfl, rfl, rfl, rfl, rfl, trivial⟩, hB46⟩
  rintro q74 w75 ⟨h76, hB77⟩
  refine wpO_end ?_
  refine then_n ?_
  refine kC 50 ((decide (i.kind < (3 : Int))) && (!(memB i.cpty))) h76 (fun hc78 => ?_) (fun hc78 => ?_)
  ·
    refine kS ?_
    refine rp 1 ?_
    refine b0 (.C 0 2 <| .nil) [(2, .int .i64 6), (4, .bool ((i.kind == (1 : Int)) || (i.kind == (2 : Int)))), (3, .bool (decide (i.kind < (3 : Int)))), (1, .pointer (some ⟨b3, 0, none⟩))] h76 (Kw.nil hB77) fun q79 h80 => ?_
    clear h76
    refine wpO_end ?_
    refine then_n ?_
    refine c_ret (by kernel_rfl) ?_
    refine then_r ?_
    refine ret1 (t := 2) (v := .int .i64 6) h80 (by kernel_rfl) (by kernel_rfl) ?_
    exact ⟨ret_eq (congrArg (Value.int .i64) (show refI i = 6 from (cF hc10).trans ((cF hc47).trans ((cF hc52).trans (cT hc78)))).symm), hB77.bel⟩
  refine c_skip (by kernel_rfl) ?_
  refine then_n ?_
  refine kS ?_
  refine kS ?_
  refine rp 8 ?_
  refine b0 (.C 0 51 <| .C 1 52 <| .J 7 58 52 57 true (decide (i.kind < (3 : Int))) (i.cpty.toList == i.sender.toList) (.C 2 53 <| .L 3 54 0 3 <| .C 4 55 <| .L 5 56 0 2 <| .E 6 57 (.bool (i.cpty.toList == i.sender.toList)) <| .nil) <| .nil) [(58, .bool ((decide (i.kind < (3 : Int))) && (i.cpty.toList == i.sender.toList))), (4, .bool ((i.kind == (1 : Int)) || (i.kind == (2 : Int)))), (3, .bool (decide (i.kind < (3 : Int)))), (2, .int .i64 0), (1, .pointer (some ⟨b3, 0, none⟩))] h76 (Kw.nil hB77) fun q81 h82 => ?_
  clear h76
  refine wpO_end ?_
  refine then_n ?_
  refine kC 58 ((decide (i.kind < (3 : Int))) && (i.cpty.toList == i.sender.toList)) h82 (fun hc83 => ?_) (fun hc83 => ?_)
  ·
    refine kS ?_
    refine rp 1 ?_
    refine b0 (.C 0 2 <| .nil) [(2, .int .i64 1), (4, .bool ((i.kind == (1 : Int)) || (i.kind == (2 : Int)))), (3, .bool (decide (i.kind < (3 : Int)))), (1, .pointer (some ⟨b3, 0, none⟩))] h82 (Kw.nil hB77) fun q84 h85 => ?_
    clear h82
    refine wpO_end ?_
    refine then_n ?_
    refine c_ret (by kernel_rfl) ?_
    refine then_r ?_
    refine ret1 (t := 2) (v := .int .i64 1) h85 (by kernel_rfl) (by kernel_rfl) ?_
    exact ⟨ret_eq (congrArg (Value.int .i64) (show refI i = 1 from (cF hc10).trans ((cF hc47).trans ((cF hc52).trans ((cF hc78).trans (cT hc83))))).symm), hB77.bel⟩
  refine c_skip (by kernel_rfl) ?_
  refine then_n ?_
  refine kS ?_
  refine kS ?_
  refine rp 8 ?_
  refine b0 (.C 0 59 <| .L 1 60 0 4 <| .E 2 61 (.bool (i.side != (0 : Int))) <| .C 3 62 <| .J 7 66 62 65 true (i.side != (0 : Int)) (i.side != (1 : Int)) (.C 4 63 <| .L 5 64 0 4 <| .E 6 65 (.bool (i.side != (1 : Int))) <| .nil) <| .nil) [(66, .bool ((i.side != (0 : Int)) && (i.side != (1 : Int)))), (4, .bool ((i.kind == (1 : Int)) || (i.kind == (2 : Int)))), (3, .bool (decide (i.kind < (3 : Int)))), (2, .int .i64 0), (1, .pointer (some ⟨b3, 0, none⟩))] h82 (Kw.nil hB77) fun q86 h87 => ?_
  clear h82
  refine wpO_end ?_
  refine then_n ?_
  refine kC 66 ((i.side != (0 : Int)) && (i.side != (1 : Int))) h87 (fun hc88 => ?_) (fun hc88 => ?_)
  ·
    refine kS ?_
    refine rp 1 ?_
    refine b0 (.C 0 2 <| .nil) [(2, .int .i64 11), (4, .bool ((i.kind == (1 : Int)) || (i.kind == (2 : Int)))), (3, .bool (decide (i.kind < (3 : Int)))), (1, .pointer (some ⟨b3, 0, none⟩))] h87 (Kw.nil hB77) fun q89 h90 => ?_
    clear h87
    refine wpO_end ?_
    refine then_n ?_
    refine c_ret (by kernel_rfl) ?_
    refine then_r ?_
    refine ret1 (t := 2) (v := .int .i64 11) h90 (by kernel_rfl) (by kernel_rfl) ?_
    exact ⟨ret_eq (congrArg (Value.int .i64) (show refI i = 11 from (cF hc10).trans ((cF hc47).trans ((cF hc52).trans ((cF hc78).trans ((cF hc83).trans (cT hc88)))))).symm), hB77.bel⟩
  refine c_skip (by kernel_rfl) ?_
  refine then_n ?_
  refine kS ?_
  refine kS ?_
  refine rp 7 ?_
  refine b0 (.C 0 67 <| .E 1 68 (.bool (!((i.kind == (1 : Int)) || (i.kind == (2 : Int))))) <| .C 2 69 <| .J 6 73 69 72 true (!((i.kind == (1 : Int)) || (i.kind == (2 : Int)))) (i.side != (0 : Int)) (.C 3 70 <| .L 4 71 0 4 <| .E 5 72 (.bool (i.side != (0 : Int))) <| .nil) <| .nil) [(73, .bool ((!((i.kind == (1 : Int)) || (i.kind == (2 : Int)))) && (i.side != (0 : Int)))), (4, .bool ((i.kind == (1 : Int)) || (i.kind == (2 : Int)))), (3, .bool (decide (i.kind < (3 : Int)))), (2, .int .i64 0), (1, .pointer (some ⟨b3, 0, none⟩))] h87 (Kw.nil hB77) fun q91 h92 => ?_
  clear h87
  refine wpO_end ?_
  refine then_n ?_
  refine kC 73 ((!((i.kind == (1 : Int)) || (i.kind == (2 : Int)))) && (i.side != (0 : Int))) h92 (fun hc93 => ?_) (fun hc93 => ?_)
  ·
    refine kS ?_
    refine rp 1 ?_
    refine b0 (.C 0 2 <| .nil) [(2, .int .i64 3), (4, .bool ((i.kind == (1 : Int)) || (i.kind == (2 : Int)))), (3, .bool (decide (i.kind < (3 : Int)))), (1, .pointer (some ⟨b3, 0, none⟩))] h92 (Kw.nil hB77) fun q94 h95 => ?_
    clear h92
    refine wpO_end ?_
    refine then_n ?_
    refine c_ret (by kernel_rfl) ?_
    refine then_r ?_
    refine ret1 (t := 2) (v := .int .i64 3) h95 (by kernel_rfl) (by kernel_rfl) ?_
    exact ⟨ret_eq (congrArg (Value.int .i64) (show refI i = 3 from (cF hc10).trans ((cF hc47).trans ((cF hc52).trans ((cF hc78).trans ((cF hc83).trans ((cF hc88).trans (cT hc93))))))).symm), hB77.bel⟩
  refine c_skip (by kernel_rfl) ?_
  refine then_n ?_
  refine kS ?_
  refine kS ?_
  refine rp 19 ?_
  refine b0 (.C 0 74 <| .L 1 75 0 1 <| .E 2 76 (.bool (i.kind == (0 : Int))) <| .C 3 77 <| .J 7 81 77 80 true (i.kind == (0 : Int)) (i.asset.toList != (⟨#[67, 65, 83, 72]⟩ : ByteArray).toList) (.C 4 78 <| .L 5 79 0 5 <| .E 6 80 (.bool (i.asset.toList != (⟨#[67, 65, 83, 72]⟩ : ByteArray).toList)) <| .nil) <| .C 8 82 <| .nil) [(82, .bool ((i.kind == (0 : Int)) && (i.asset.toList != (⟨#[67, 65, 83, 72]⟩ : ByteArray).toList))), (4, .bool ((i.kind == (1 : Int)) || (i.kind == (2 : Int)))), (3, .bool (decide (i.kind < (3 : Int)))), (2, .int .i64 0), (1, .pointer (some ⟨b3, 0, none⟩))] h92 (Kw.nil hB77) fun q96 h97 => ?_
  clear h92
  refine wpO_cut [(9, false), (10, false), (11, false), (12, false), (13, false), (14, false), (15, false), (16, false), (17, false), (18, false)] [] (fun qa qw => Fr 291 [(92, .bool (((i.kind == (0 : Int)) && (i.asset.toList != (⟨#[67, 65, 83, 72]⟩ : ByteArray).toList)) || ((decide ((0 : Int) < i.kind)) && (!(isinB i.asset))))), (4, .bool ((i.kind == (1 : Int)) || (i.kind == (2 : Int)))), (3, .bool (decide (i.kind < (3 : Int)))), (2, .int .i64 0), (1, .pointer (some ⟨b3, 0, none⟩))] qa ∧ Bx w [(b3, .cells (insV i A c).cells 50 (0, 0))] qw) ?_ ?_
  ·
    rcases Bool.eq_false_or_eq_true ((i.kind == (0 : Int)) && (i.asset.toList != (⟨#[67, 65, 83, 72]⟩ : ByteArray).toList)) with hc98 | hc98
    ·
      refine b1 82 hc98 (.K 9 83 <| .K 10 84 <| .K 11 85 <| .K 12 86 <| .K 13 87 <| .K 14 88 <| .K 15 89 <| .K 16 90 <| .K 17 91 <| .nil) [(91, undef), (82, .bool ((i.kind == (0 : Int)) && (i.asset.toList != (⟨#[67, 65, 83, 72]⟩ : ByteArray).toList))), (4, .bool ((i.kind == (1 : Int)) || (i.kind == (2 : Int)))), (3, .bool (decide (i.kind < (3 : Int)))), (2, .int .i64 0), (1, .pointer (some ⟨b3, 0, none⟩))] h97 (Kw.nil hB77) fun q99 h100 => ?_
      clear h97
      refine eE 18 92 (.pick (.tmp 82) (.const (.bool true)) (.tmp 91)) 4 (.bool (((i.kind == (0 : Int)) && (i.asset.toList != (⟨#[67, 65, 83, 72]⟩ : ByteArray).toList)) || ((decide ((0 : Int) < i.kind)) && (!(isinB i.asset))))) h100 (hr := r_or (c := (i.kind == (0 : Int)) && (i.asset.toList != (⟨#[67, 65, 83, 72]⟩ : ByteArray).toList)) (d := ((decide ((0 : Int) < i.kind)) && (!(isinB i.asset)))) (by kernel_rfl) (fun e103 => Bool.noConfusion (e103.symm.trans hc98))) fun q101 h102 => ?_
      clear h100
      exact ⟨h102.keep _ ⟨rfl, rfl, rfl, rfl, rfl, trivial⟩, hB77⟩
    ·
      refine b1 82 hc98 (.C 9 83 <| .L 10 84 0 1 <| .E 11 85 (.bool (decide ((0 : Int) < i.kind))) <| .C 12 86 <| .nil) [(86, .bool (decide ((0 : Int) < i.kind))), (82, .bool ((i.kind == (0 : Int)) && (i.asset.toList != (⟨#[67, 65, 83, 72]⟩ : ByteArray).toList))), (4, .bool ((i.kind == (1 : Int)) || (i.kind == (2 : Int)))), (3, .bool (decide (i.kind < (3 : Int)))), (2, .int .i64 0), (1, .pointer (some ⟨b3, 0, none⟩))] h97 (Kw.nil hB77) fun q104 h105 => ?_
      clear h97
      refine wpO_cut [(13, false), (14, false), (15, false), (16, false), (17, false)] [(18, false)] (fun qa qw => Fr 291 [(91, .bool ((decide ((0 : Int) < i.kind)) && (!(isinB i.asset)))), (82, .bool ((i.kind == (0 : Int)) && (i.asset.toList != (⟨#[67, 65, 83, 72]⟩ : ByteArray).toList))), (4, .bool ((i.kind == (1 : Int)) || (i.kind == (2 : Int)))), (3, .bool (decide (i.kind < (3 : Int)))), (2, .int .i64 0), (1, .pointer (some ⟨b3, 0, none⟩))] qa ∧ Bx w [(b3, .cells (insV i A c).cells 50 (0, 0))] qw) ?_ ?_
      ·
        rcases Bool.eq_false_or_eq_true (decide ((0 : Int) < i.kind)) with hc106 | hc106
        ·
          refine b1 86 hc106 (.C 13 87 <| .L 14 88 0 5 <| .nil) [(88, .string i.asset), (86, .bool (decide ((0 : Int) < i.kind))), (82, .bool ((i.kind == (0 : Int)) && (i.asset.toList != (⟨#[67, 65, 83, 72]⟩ : ByteArray).toList))), (4, .bool ((i.kind == (1 : Int)) || (i.kind == (2 : Int)))), (3, .bool (decide (i.kind < (3 : Int)))), (2, .int .i64 0), (1, .pointer (some ⟨b3, 0, none⟩))] h105 (Kw.nil hB77) fun q107 h108 => ?_
          clear h105
          refine sC 15 89 (g := (some (12, true))) h108 (g1 86 hc106) (c50_0 i.asset w75) ?_
          rintro _ w111 ⟨rfl, hb112⟩
          have hB113 := hB77.call hb112
          refine ⟨_, rfl, trivial, fun q109 h110 => ?_⟩
          clear h108 hB77 hb112
          refine b1 86 hc106 (.E 16 90 (.bool (!(isinB i.asset))) <| .nil) [(90, .bool (!(isinB i.asset))), (86, .bool (decide ((0 : Int) < i.kind))), (82, .bool ((i.kind == (0 : Int)) && (i.asset.toList != (⟨#[67, 65, 83, 72]⟩ : ByteArray).toList))), (4, .bool ((i.kind == (1 : Int)) || (i.kind == (2 : Int)))), (3, .bool (decide (i.kind < (3 : Int)))), (2, .int .i64 0), (1, .pointer (some ⟨b3, 0, none⟩))] h110 (Kw.nil hB113) fun q114 h115 => ?_
          clear h110
          refine eG 17 91 (.pick (.tmp 86) (.tmp 90) (.const (.bool false))) 4 (8, false) (.bool ((decide ((0 : Int) < i.kind)) && (!(isinB i.asset)))) (g2 82 hc98) h115 (hr := r_and (c := decide ((0 : Int) < i.kind)) (d := (!(isinB i.asset))) (by kernel_rfl) (fun _ => by kernel_rfl)) fun q116 h117 => ?_
          clear h115
          exact ⟨h117.keep _ ⟨rfl, rfl, rfl, rfl, rfl, rfl, trivial⟩, hB113⟩
        ·
          refine b1 86 hc106 (.K 13 87 <| .K 14 88 <| .K 15 89 <| .K 16 90 <| .nil) [(90, undef), (86, .bool (decide ((0 : Int) < i.kind))), (82, .bool ((i.kind == (0 : Int)) && (i.asset.toList != (⟨#[67, 65, 83, 72]⟩ : ByteArray).toList))), (4, .bool ((i.kind == (1 : Int)) || (i.kind == (2 : Int)))), (3, .bool (decide (i.kind < (3 : Int)))), (2, .int .i64 0), (1, .pointer (some ⟨b3, 0, none⟩))] h105 (Kw.nil hB77) fun q118 h119 => ?_
          clear h105
          refine eG 17 91 (.pick (.tmp 86) (.tmp 90) (.const (.bool false))) 4 (8, false) (.bool ((decide ((0 : Int) < i.kind)) && (!(isinB i.asset)))) (g2 82 hc98) h119 (hr := r_and (c := decide ((0 : Int) < i.kind)) (d := (!(isinB i.asset))) (by kernel_rfl) (fun e122 => Bool.noConfusion (e122.symm.trans hc106))) fun q120 h121 => ?_
          clear h119
          exact ⟨h121.keep _ ⟨rfl, rfl, rfl, rfl, rfl, rfl, trivial⟩, hB77⟩
      rintro q123 w124 ⟨h125, hB126⟩
      refine eE 18 92 (.pick (.tmp 82) (.const (.bool true)) (.tmp 91)) 4 (.bool (((i.kind == (0 : Int)) && (i.asset.toList != (⟨#[67, 65, 83, 72]⟩ : ByteArray).toList)) || ((decide ((0 : Int) < i.kind)) && (!(isinB i.asset))))) h125 (hr := r_or (c := (i.kind == (0 : Int)) && (i.asset.toList != (⟨#[67, 65, 83, 72]⟩ : ByteArray).toList)) (d := ((decide ((0 : Int) < i.kind)) && (!(isinB i.asset)))) (by kernel_rfl) (fun _ => by kernel_rfl)) fun q127 h128 => ?_
      clear h125
      exact ⟨h128.keep _ ⟨rfl, rfl, rfl, rfl, rfl, trivial⟩, hB126⟩
  rintro q129 w130 ⟨h131, hB132⟩
  refine wpO_end ?_
  refine then_n ?_
  refine kC 92 (((i.kind == (0 : Int)) && (i.asset.toList != (⟨#[67, 65, 83, 72]⟩ : ByteArray).toList)) || ((decide ((0 : Int) < i.kind)) && (!(isinB i.asset)))) h131 (fun hc133 => ?_) (fun hc133 => ?_)
  ·
    refine kS ?_
    refine rp 1 ?_
    refine b0 (.C 0 2 <| .nil) [(2, .int .i64 6), (4, .bool ((i.kind == (1 : Int)) || (i.kind == (2 : Int)))), (3, .bool (decide (i.kind < (3 : Int)))), (1, .pointer (some ⟨b3, 0, none⟩))] h131 (Kw.nil hB132) fun q134 h135 => ?_
    clear h131
    refine wpO_end ?_
    refine then_n ?_
    refine c_ret (by kernel_rfl) ?_
    refine then_r ?_
    refine ret1 (t := 2) (v := .int .i64 6) h135 (by kernel_rfl) (by kernel_rfl) ?_
    exact ⟨ret_eq (congrArg (Value.int .i64) (show refI i = 6 from (cF hc10).trans ((cF hc47).trans ((cF hc52).trans ((cF hc78).trans ((cF hc83).trans ((cF hc88).trans ((cF hc93).trans (cT hc133)))))))).symm), hB132.bel⟩
  refine c_skip (by kernel_rfl) ?_
  refine then_n ?_
  refine kS ?_
  refine kS ?_
  refine rp 23 ?_
  refine b0 (.C 0 93 <| .L 1 94 0 1 <| .E 2 95 (.bool (i.kind == (0 : Int))) <| .C 3 96 <| .J 7 100 96 99 true (i.kind == (0 : Int)) (i.qty != (0 : Int)) (.C 4 97 <| .L 5 98 0 6 <| .E 6 99 (.bool (i.qty != (0 : Int))) <| .nil) <| .C 8 101 <| .J 22 115 101 114 false ((i.kind == (0 : Int)) && (i.qty != (0 : Int))) ((decide ((0 : Int) < i.kind)) && ((decide (i.qty < (1 : Int))) || (decide ((1000000000000000 : Int) < i.qty)))) (.C 9 102 <| .L 10 103 0 1 <| .E 11 104 (.bool (decide ((0 : Int) < i.kind))) <| .C 12 105 <| .J 21 114 105 113 true (decide ((0 : Int) < i.kind)) ((decide (i.qty < (1 : Int))) || (decide ((1000000000000000 : Int) < i.qty))) (.C 13 106 <| .L 14 107 0 6 <| .E 15 108 (.bool (decide (i.qty < (1 : Int)))) <| .C 16 109 <| .J 20 113 109 112 false (decide (i.qty < (1 : Int))) (decide ((1000000000000000 : Int) < i.qty)) (.C 17 110 <| .L 18 111 0 6 <| .E 19 112 (.bool (decide ((1000000000000000 : Int) < i.qty))) <| .nil) <| .nil) <| .nil) <| .nil) [(115, .bool (((i.kind == (0 : Int)) && (i.qty != (0 : Int))) || ((decide ((0 : Int) < i.kind)) && ((decide (i.qty < (1 : Int))) || (decide ((1000000000000000 : Int) < i.qty)))))), (4, .bool ((i.kind == (1 : Int)) || (i.kind == (2 : Int)))), (3, .bool (decide (i.kind < (3 : Int)))), (2, .int .i64 0), (1, .pointer (some ⟨b3, 0, none⟩))] h131 (Kw.nil hB132) fun q136 h137 => ?_
  clear h131
  refine wpO_end ?_
  refine then_n ?_
  refine kC 115 (((i.kind == (0 : Int)) && (i.qty != (0 : Int))) || ((decide ((0 : Int) < i.kind)) && ((decide (i.qty < (1 : Int))) || (decide ((1000000000000000 : Int) < i.qty))))) h137 (fun hc138 => ?_) (fun hc138 => ?_)
  ·
    refine kS ?_
    refine rp 1 ?_
    refine b0 (.C 0 2 <| .nil) [(2, .int .i64 2), (4, .bool ((i.kind == (1 : Int)) || (i.kind == (2 : Int)))), (3, .bool (decide (i.kind < (3 : Int)))), (1, .pointer (some ⟨b3, 0, none⟩))] h137 (Kw.nil hB132) fun q139 h140 => ?_
    clear h137
    refine wpO_end ?_
    refine then_n ?_
    refine c_ret (by kernel_rfl) ?_
    refine then_r ?_
    refine ret1 (t := 2) (v := .int .i64 2) h140 (by kernel_rfl) (by kernel_rfl) ?_
    exact ⟨ret_eq (congrArg (Value.int .i64) (show refI i = 2 from (cF hc10).trans ((cF hc47).trans ((cF hc52).trans ((cF hc78).trans ((cF hc83).trans ((cF hc88).trans ((cF hc93).trans ((cF hc133).trans (cT hc138))))))))).symm), hB132.bel⟩
  refine c_skip (by kernel_rfl) ?_
  refine then_n ?_
  refine kS ?_
  refine kS ?_
  refine rp 23 ?_
  refine b0 (.C 0 116 <| .L 1 117 0 1 <| .E 2 118 (.bool (decide (i.kind < (2 : Int)))) <| .C 3 119 <| .J 12 128 119 127 true (decide (i.kind < (2 : Int))) ((decide (i.amt < (1 : Int))) || (decide ((1000000000000000 : Int) < i.amt))) (.C 4 120 <| .L 5 121 0 7 <| .E 6 122 (.bool (decide (i.amt < (1 : Int)))) <| .C 7 123 <| .J 11 127 123 126 false (decide (i.amt < (1 : Int))) (decide ((1000000000000000 : Int) < i.amt)) (.C 8 124 <| .L 9 125 0 7 <| .E 10 126 (.bool (decide ((1000000000000000 : Int) < i.amt))) <| .nil) <| .nil) <| .C 13 129 <| .J 22 138 129 137 false ((decide (i.kind < (2 : Int))) && ((decide (i.amt < (1 : Int))) || (decide ((1000000000000000 : Int) < i.amt)))) ((decide ((2 : Int) ≤ i.kind)) && (i.amt != (0 : Int))) (.C 14 130 <| .L 15 131 0 1 <| .E 16 132 (.bool (decide ((2 : Int) ≤ i.kind))) <| .C 17 133 <| .J 21 137 133 136 true (decide ((2 : Int) ≤ i.kind)) (i.amt != (0 : Int)) (.C 18 134 <| .L 19 135 0 7 <| .E 20 136 (.bool (i.amt != (0 : Int))) <| .nil) <| .nil) <| .nil) [(138, .bool (((decide (i.kind < (2 : Int))) && ((decide (i.amt < (1 : Int))) || (decide ((1000000000000000 : Int) < i.amt)))) || ((decide ((2 : Int) ≤ i.kind)) && (i.amt != (0 : Int))))), (4, .bool ((i.kind == (1 : Int)) || (i.kind == (2 : Int)))), (3, .bool (decide (i.kind < (3 : Int)))), (2, .int .i64 0), (1, .pointer (some ⟨b3, 0, none⟩))] h137 (Kw.nil hB132) fun q141 h142 => ?_
  clear h137
  refine wpO_end ?_
  refine then_n ?_
  refine kC 138 (((decide (i.kind < (2 : Int))) && ((decide (i.amt < (1 : Int))) || (decide ((1000000000000000 : Int) < i.amt)))) || ((decide ((2 : Int) ≤ i.kind)) && (i.amt != (0 : Int)))) h142 (fun hc143 => ?_) (fun hc143 => ?_)
  ·
    refine kS ?_
    refine rp 1 ?_
    refine b0 (.C 0 2 <| .nil) [(2, .int .i64 2), (4, .bool ((i.kind == (1 : Int)) || (i.kind == (2 : Int)))), (3, .bool (decide (i.kind < (3 : Int)))), (1, .pointer (some ⟨b3, 0, none⟩))] h142 (Kw.nil hB132) fun q144 h145 => ?_
    clear h142
    refine wpO_end ?_
    refine then_n ?_
    refine c_ret (by kernel_rfl) ?_
    refine then_r ?_
    refine ret1 (t := 2) (v := .int .i64 2) h145 (by kernel_rfl) (by kernel_rfl) ?_
    exact ⟨ret_eq (congrArg (Value.int .i64) (show refI i = 2 from (cF hc10).trans ((cF hc47).trans ((cF hc52).trans ((cF hc78).trans ((cF hc83).trans ((cF hc88).trans ((cF hc93).trans ((cF hc133).trans ((cF hc138).trans (cT hc143)))))))))).symm), hB132.bel⟩
  refine c_skip (by kernel_rfl) ?_
  refine then_n ?_
  refine kS ?_
  refine kS ?_
  refine rp 28 ?_
  refine b0 (.C 0 139 <| .L 1 140 0 9 <| .nil) [(140, .int .i64 i.sday), (4, .bool ((i.kind == (1 : Int)) || (i.kind == (2 : Int)))), (3, .bool (decide (i.kind < (3 : Int)))), (2, .int .i64 0), (1, .pointer (some ⟨b3, 0, none⟩))] h142 (Kw.nil hB132) fun q146 h147 => ?_
  clear h142
  refine sC 2 141 h147 gok_none (c51 i.sday w130) ?_
  rintro _ w150 ⟨rfl, hb151⟩
  have hB152 := hB132.call hb151
  refine ⟨_, rfl, trivial, fun q148 h149 => ?_⟩
  clear h147 hB132 hb151
  refine b0 (.E 3 142 (.bool (!(dayB i.sday))) <| .C 4 143 <| .J 18 157 143 156 false (!(dayB i.sday)) (((i.kind == (1 : Int)) || (i.kind == (2 : Int))) && ((decide (i.tday < (0 : Int))) || (decide (i.sday < i.tday)))) (.C 5 144 <| .C 6 145 <| .J 17 156 145 155 true ((i.kind == (1 : Int)) || (i.kind == (2 : Int))) ((decide (i.tday < (0 : Int))) || (decide (i.sday < i.tday))) (.C 7 146 <| .L 8 147 0 8 <| .E 9 148 (.bool (decide (i.tday < (0 : Int)))) <| .C 10 149 <| .J 16 155 149 154 false (decide (i.tday < (0 : Int))) (decide (i.sday < i.tday)) (.C 11 150 <| .L 12 151 0 8 <| .C 13 152 <| .L 14 153 0 9 <| .E 15 154 (.bool (decide (i.sday < i.tday))) <| .nil) <| .nil) <| .nil) <| .C 19 158 <| .J 27 166 158 165 false ((!(dayB i.sday)) || (((i.kind == (1 : Int)) || (i.kind == (2 : Int))) && ((decide (i.tday < (0 : Int))) || (decide (i.sday < i.tday))))) ((!((i.kind == (1 : Int)) || (i.kind == (2 : Int)))) && (i.tday != (0 : Int))) (.C 20 159 <| .E 21 160 (.bool (!((i.kind == (1 : Int)) || (i.kind == (2 : Int))))) <| .C 22 161 <| .J 26 165 161 164 true (!((i.kind == (1 : Int)) || (i.kind == (2 : Int)))) (i.tday != (0 : Int)) (.C 23 162 <| .L 24 163 0 8 <| .E 25 164 (.bool (i.tday != (0 : Int))) <| .nil) <| .nil) <| .nil) [(166, .bool (((!(dayB i.sday)) || (((i.kind == (1 : Int)) || (i.kind == (2 : Int))) && ((decide (i.tday < (0 : Int))) || (decide (i.sday < i.tday))))) || ((!((i.kind == (1 : Int)) || (i.kind == (2 : Int)))) && (i.tday != (0 : Int))))), (4, .bool ((i.kind == (1 : Int)) || (i.kind == (2 : Int)))), (3, .bool (decide (i.kind < (3 : Int)))), (2, .int .i64 0), (1, .pointer (some ⟨b3, 0, none⟩))] h149 (Kw.nil hB152) fun q153 h154 => ?_
  clear h149
  refine wpO_end ?_
  refine then_n ?_
  refine kC 166 (((!(dayB i.sday)) || (((i.kind == (1 : Int)) || (i.kind == (2 : Int))) && ((decide (i.tday < (0 : Int))) || (decide (i.sday < i.tday))))) || ((!((i.kind == (1 : Int)) || (i.kind == (2 : Int)))) && (i.tday != (0 : Int)))) h154 (fun hc155 => ?_) (fun hc155 => ?_)
  ·
    refine kS ?_
    refine rp 1 ?_
    refine b0 (.C 0 2 <| .nil) [(2, .int .i64 28), (4, .bool ((i.kind == (1 : Int)) || (i.kind == (2 : Int)))), (3, .bool (decide (i.kind < (3 : Int)))), (1, .pointer (some ⟨b3, 0, none⟩))] h154 (Kw.nil hB152) fun q156 h157 => ?_
    clear h154
    refine wpO_end ?_
    refine then_n ?_
    refine c_ret (by kernel_rfl) ?_
    refine then_r ?_
    refine ret1 (t := 2) (v := .int .i64 28) h157 (by kernel_rfl) (by kernel_rfl) ?_
    exact ⟨ret_eq (congrArg (Value.int .i64) (show refI i = 28 from (cF hc10).trans ((cF hc47).trans ((cF hc52).trans ((cF hc78).trans ((cF hc83).trans ((cF hc88).trans ((cF hc93).trans ((cF hc133).trans ((cF hc138).trans ((cF hc143).trans (cT hc155))))))))))).symm), hB152.bel⟩
  refine c_skip (by kernel_rfl) ?_
  refine then_n ?_
  refine kS ?_
  refine kS ?_
  refine rp 17 ?_
  refine b0 (.C 0 167 <| .L 1 168 0 10 <| .E 2 169 (.bool (decide (i.prio < (0 : Int)))) <| .C 3 170 <| .J 7 174 170 173 false (decide (i.prio < (0 : Int))) (decide ((2 : Int) < i.prio)) (.C 4 171 <| .L 5 172 0 10 <| .E 6 173 (.bool (decide ((2 : Int) < i.prio))) <| .nil) <| .C 8 175 <| .J 16 183 175 182 false ((decide (i.prio < (0 : Int))) || (decide ((2 : Int) < i.prio))) ((!(decide (i.kind < (3 : Int)))) && (i.prio != (0 : Int))) (.C 9 176 <| .E 10 177 (.bool (!(decide (i.kind < (3 : Int))))) <| .C 11 178 <| .J 15 182 178 181 true (!(decide (i.kind < (3 : Int)))) (i.prio != (0 : Int)) (.C 12 179 <| .L 13 180 0 10 <| .E 14 181 (.bool (i.prio != (0 : Int))) <| .nil) <| .nil) <| .nil) [(183, .bool (((decide (i.prio < (0 : Int))) || (decide ((2 : Int) < i.prio))) || ((!(decide (i.kind < (3 : Int)))) && (i.prio != (0 : Int))))), (4, .bool ((i.kind == (1 : Int)) || (i.kind == (2 : Int)))), (3, .bool (decide (i.kind < (3 : Int)))), (2, .int .i64 0), (1, .pointer (some ⟨b3, 0, none⟩))] h154 (Kw.nil hB152) fun q158 h159 => ?_
  clear h154
  refine wpO_end ?_
  refine then_n ?_
  refine kC 183 (((decide (i.prio < (0 : Int))) || (decide ((2 : Int) < i.prio))) || ((!(decide (i.kind < (3 : Int)))) && (i.prio != (0 : Int)))) h159 (fun hc160 => ?_) (fun hc160 => ?_)
  ·
    refine kS ?_
    refine rp 1 ?_
    refine b0 (.C 0 2 <| .nil) [(2, .int .i64 2), (4, .bool ((i.kind == (1 : Int)) || (i.kind == (2 : Int)))), (3, .bool (decide (i.kind < (3 : Int)))), (1, .pointer (some ⟨b3, 0, none⟩))] h159 (Kw.nil hB152) fun q161 h162 => ?_
    clear h159
    refine wpO_end ?_
    refine then_n ?_
    refine c_ret (by kernel_rfl) ?_
    refine then_r ?_
    refine ret1 (t := 2) (v := .int .i64 2) h162 (by kernel_rfl) (by kernel_rfl) ?_
    exact ⟨ret_eq (congrArg (Value.int .i64) (show refI i = 2 from (cF hc10).trans ((cF hc47).trans ((cF hc52).trans ((cF hc78).trans ((cF hc83).trans ((cF hc88).trans ((cF hc93).trans ((cF hc133).trans ((cF hc138).trans ((cF hc143).trans ((cF hc155).trans (cT hc160)))))))))))).symm), hB152.bel⟩
  refine c_skip (by kernel_rfl) ?_
  refine then_n ?_
  refine kS ?_
  refine kS ?_
  refine rp 6 ?_
  refine b0 (.C 0 184 <| .L 1 185 0 11 <| .C 2 186 <| .J 5 189 186 188 true i.part (!((i.kind == (1 : Int)) || (i.kind == (2 : Int)))) (.C 3 187 <| .E 4 188 (.bool (!((i.kind == (1 : Int)) || (i.kind == (2 : Int))))) <| .nil) <| .nil) [(189, .bool (i.part && (!((i.kind == (1 : Int)) || (i.kind == (2 : Int)))))), (3, .bool (decide (i.kind < (3 : Int)))), (2, .int .i64 0), (1, .pointer (some ⟨b3, 0, none⟩))] h159 (Kw.nil hB152) fun q163 h164 => ?_
  clear h159
  refine wpO_end ?_
  refine then_n ?_
  refine kC 189 (i.part && (!((i.kind == (1 : Int)) || (i.kind == (2 : Int))))) h164 (fun hc165 => ?_) (fun hc165 => ?_)
  ·
    refine kS ?_
    refine rp 1 ?_
    refine b0 (.C 0 2 <| .nil) [(2, .int .i64 3), (3, .bool (decide (i.kind < (3 : Int)))), (1, .pointer (some ⟨b3, 0, none⟩))] h164 (Kw.nil hB152) fun q166 h167 => ?_
    clear h164
    refine wpO_end ?_
    refine then_n ?_
    refine c_ret (by kernel_rfl) ?_
    refine then_r ?_
    refine ret1 (t := 2) (v := .int .i64 3) h167 (by kernel_rfl) (by kernel_rfl) ?_
    exact ⟨ret_eq (congrArg (Value.int .i64) (show refI i = 3 from (cF hc10).trans ((cF hc47).trans ((cF hc52).trans ((cF hc78).trans ((cF hc83).trans ((cF hc88).trans ((cF hc93).trans ((cF hc133).trans ((cF hc138).trans ((cF hc143).trans ((cF hc155).trans ((cF hc160).trans (cT hc165))))))))))))).symm), hB152.bel⟩
  refine c_skip (by kernel_rfl) ?_
  refine then_n ?_
  refine kS ?_
  refine kS ?_
  refine rp 24 ?_
  refine b0 (.C 0 190 <| .L 1 191 0 11 <| .C 2 192 <| .J 13 203 192 202 true i.part ((decide (i.minlot < (1 : Int))) || (decide (i.qty < i.minlot))) (.C 3 193 <| .L 4 194 0 12 <| .E 5 195 (.bool (decide (i.minlot < (1 : Int)))) <| .C 6 196 <| .J 12 202 196 201 false (decide (i.minlot < (1 : Int))) (decide (i.qty < i.minlot)) (.C 7 197 <| .L 8 198 0 12 <| .C 9 199 <| .L 10 200 0 6 <| .E 11 201 (.bool (decide (i.qty < i.minlot))) <| .nil) <| .nil) <| .C 14 204 <| .J 23 213 204 212 false (i.part && ((decide (i.minlot < (1 : Int))) || (decide (i.qty < i.minlot)))) ((!i.part) && (i.minlot != (0 : Int))) (.C 15 205 <| .L 16 206 0 11 <| .E 17 207 (.bool (!i.part)) <| .C 18 208 <| .J 22 212 208 211 true (!i.part) (i.minlot != (0 : Int)) (.C 19 209 <| .L 20 210 0 12 <| .E 21 211 (.bool (i.minlot != (0 : Int))) <| .nil) <| .nil) <| .nil) [(213, .bool ((i.part && ((decide (i.minlot < (1 : Int))) || (decide (i.qty < i.minlot)))) || ((!i.part) && (i.minlot != (0 : Int))))), (3, .bool (decide (i.kind < (3 : Int)))), (2, .int .i64 0), (1, .pointer (some ⟨b3, 0, none⟩))] h164 (Kw.nil hB152) fun q168 h169 => ?_
  clear h164
  refine wpO_end ?_
  refine then_n ?_
  refine kC 213 ((i.part && ((decide (i.minlot < (1 : Int))) || (decide (i.qty < i.minlot)))) || ((!i.part) && (i.minlot != (0 : Int)))) h169 (fun hc170 => ?_) (fun hc170 => ?_)
  ·
    refine kS ?_
    refine rp 1 ?_
    refine b0 (.C 0 2 <| .nil) [(2, .int .i64 2), (3, .bool (decide (i.kind < (3 : Int)))), (1, .pointer (some ⟨b3, 0, none⟩))] h169 (Kw.nil hB152) fun q171 h172 => ?_
    clear h169
    refine wpO_end ?_
    refine then_n ?_
    refine c_ret (by kernel_rfl) ?_
    refine then_r ?_
    refine ret1 (t := 2) (v := .int .i64 2) h172 (by kernel_rfl) (by kernel_rfl) ?_
    exact ⟨ret_eq (congrArg (Value.int .i64) (show refI i = 2 from (cF hc10).trans ((cF hc47).trans ((cF hc52).trans ((cF hc78).trans ((cF hc83).trans ((cF hc88).trans ((cF hc93).trans ((cF hc133).trans ((cF hc138).trans ((cF hc143).trans ((cF hc155).trans ((cF hc160).trans ((cF hc165).trans (cT hc170)))))))))))))).symm), hB152.bel⟩
  refine c_skip (by kernel_rfl) ?_
  refine then_n ?_
  refine kS ?_
  refine kS ?_
  refine rp 30 ?_
  refine b0 (.C 0 214 <| .L 1 215 0 13 <| .C 2 216 <| .J 5 219 216 218 true i.hold (!(decide (i.kind < (3 : Int)))) (.C 3 217 <| .E 4 218 (.bool (!(decide (i.kind < (3 : Int))))) <| .nil) <| .C 6 220 <| .J 19 233 220 232 false (i.hold && (!(decide (i.kind < (3 : Int))))) (i.resv && ((i.kind != (0 : Int)) || (i.prio != (2 : Int)))) (.C 7 221 <| .L 8 222 0 14 <| .C 9 223 <| .J 18 232 223 231 true i.resv ((i.kind != (0 : Int)) || (i.prio != (2 : Int))) (.C 10 224 <| .L 11 225 0 1 <| .E 12 226 (.bool (i.kind != (0 : Int))) <| .C 13 227 <| .J 17 231 227 230 false (i.kind != (0 : Int)) (i.prio != (2 : Int)) (.C 14 228 <| .L 15 229 0 10 <| .E 16 230 (.bool (i.prio != (2 : Int))) <| .nil) <| .nil) <| .nil) <| .C 20 234 <| .J 29 243 234 242 false ((i.hold && (!(decide (i.kind < (3 : Int))))) || (i.resv && ((i.kind != (0 : Int)) || (i.prio != (2 : Int))))) ((!(decide (i.kind < (3 : Int)))) && (decide ((0 : Int) < ((i.links.length : Nat) : Int)))) (.C 21 235 <| .E 22 236 (.bool (!(decide (i.kind < (3 : Int))))) <| .C 23 237 <| .J 28 242 237 241 true (!(decide (i.kind < (3 : Int)))) (decide ((0 : Int) < ((i.links.length : Nat) : Int))) (.C 24 238 <| .L 25 239 0 15 <| .E 26 240 (.int .i64 ((i.links.length : Nat) : Int)) <| .E 27 241 (.bool (decide ((0 : Int) < ((i.links.length : Nat) : Int)))) <| .nil) <| .nil) <| .nil) [(243, .bool (((i.hold && (!(decide (i.kind < (3 : Int))))) || (i.resv && ((i.kind != (0 : Int)) || (i.prio != (2 : Int))))) || ((!(decide (i.kind < (3 : Int)))) && (decide ((0 : Int) < ((i.links.length : Nat) : Int)))))), (2, .int .i64 0), (1, .pointer (some ⟨b3, 0, none⟩))] h169 (Kw.nil hB152) fun q173 h174 => ?_
  clear h169
  refine wpO_end ?_
  refine then_n ?_
  refine kC 243 (((i.hold && (!(decide (i.kind < (3 : Int))))) || (i.resv && ((i.kind != (0 : Int)) || (i.prio != (2 : Int))))) || ((!(decide (i.kind < (3 : Int)))) && (decide ((0 : Int) < ((i.links.length : Nat) : Int))))) h174 (fun hc175 => ?_) (fun hc175 => ?_)
  ·
    refine kS ?_
    refine rp 1 ?_
    refine b0 (.C 0 2 <| .nil) [(2, .int .i64 3), (1, .pointer (some ⟨b3, 0, none⟩))] h174 (Kw.nil hB152) fun q176 h177 => ?_
    clear h174
    refine wpO_end ?_
    refine then_n ?_
    refine c_ret (by kernel_rfl) ?_
    refine then_r ?_
    refine ret1 (t := 2) (v := .int .i64 3) h177 (by kernel_rfl) (by kernel_rfl) ?_
    exact ⟨ret_eq (congrArg (Value.int .i64) (show refI i = 3 from (cF hc10).trans ((cF hc47).trans ((cF hc52).trans ((cF hc78).trans ((cF hc83).trans ((cF hc88).trans ((cF hc93).trans ((cF hc133).trans ((cF hc138).trans ((cF hc143).trans ((cF hc155).trans ((cF hc160).trans ((cF hc165).trans ((cF hc170).trans (cT hc175))))))))))))))).symm), hB152.bel⟩
  refine c_skip (by kernel_rfl) ?_
  refine then_n ?_
  refine kS ?_
  refine kS ?_
  refine rp 4 ?_
  refine b0 (.C 0 244 <| .L 1 245 0 15 <| .E 2 246 (.int .i64 ((i.links.length : Nat) : Int)) <| .E 3 247 (.bool (decide ((8 : Int) < ((i.links.length : Nat) : Int)))) <| .nil) [(247, .bool (decide ((8 : Int) < ((i.links.length : Nat) : Int)))), (2, .int .i64 0), (1, .pointer (some ⟨b3, 0, none⟩))] h174 (Kw.nil hB152) fun q178 h179 => ?_
  clear h174
  refine wpO_end ?_
  refine then_n ?_
  refine kC 247 (decide ((8 : Int) < ((i.links.length : Nat) : Int))) h179 (fun hc180 => ?_) (fun hc180 => ?_)
  ·
    have hp181 : ((8 : Int) < ((i.links.length : Nat) : Int)) := of_decide_eq_true hc180
    refine kS ?_
    refine rp 1 ?_
    refine b0 (.C 0 2 <| .nil) [(2, .int .i64 8), (1, .pointer (some ⟨b3, 0, none⟩))] h179 (Kw.nil hB152) fun q182 h183 => ?_
    clear h179
    refine wpO_end ?_
    refine then_n ?_
    refine c_ret (by kernel_rfl) ?_
    refine then_r ?_
    refine ret1 (t := 2) (v := .int .i64 8) h183 (by kernel_rfl) (by kernel_rfl) ?_
    exact ⟨ret_eq (congrArg (Value.int .i64) (show refI i = 8 from (cF hc10).trans ((cF hc47).trans ((cF hc52).trans ((cF hc78).trans ((cF hc83).trans ((cF hc88).trans ((cF hc93).trans ((cF hc133).trans ((cF hc138).trans ((cF hc143).trans ((cF hc155).trans ((cF hc160).trans ((cF hc165).trans ((cF hc170).trans ((cF hc175).trans (cT hc180)))))))))))))))).symm), hB152.bel⟩
  have hp184 : ¬ ((8 : Int) < ((i.links.length : Nat) : Int)) := of_decide_eq_false hc180
  refine c_skip (by kernel_rfl) ?_
  refine then_n ?_
  refine kS ?_
  refine kS ?_
  refine rp 1 ?_
  refine b0 (.C 0 5 <| .nil) [(5, .int .i64 0), (2, .int .i64 0), (1, .pointer (some ⟨b3, 0, none⟩))] h179 (Kw.nil hB152) fun q185 h186 => ?_
  clear h179
  refine wpO_end ?_
  refine then_n ?_
  refine c_block 0 (by kernel_rfl) ?_
  have htop : refI i = refL i 0 i.links := (cF hc10).trans ((cF hc47).trans ((cF hc52).trans ((cF hc78).trans ((cF hc83).trans ((cF hc88).trans ((cF hc93).trans ((cF hc133).trans ((cF hc138).trans ((cF hc143).trans ((cF hc155).trans ((cF hc160).trans ((cF hc165).trans ((cF hc170).trans ((cF hc175).trans (cF hc180)))))))))))))))
  refine c_loop (by kernel_rfl) (fun qa qw => ∃ k : Nat, (k ≤ i.links.length) ∧ Fr 291 [(1, .pointer (some ⟨b3, 0, none⟩)), (2, .int .i64 0), (5, .int .i64 ((k : Nat) : Int))] qa ∧ Bx w [(b3, .cells (insV i A c).cells 50 (0, 0))] qw ∧ (refL i 0 i.links = refL i k (i.links.drop k))) (fun qa _ => (((i.links.length : Int)) - intAt qa 5).toNat) ⟨0, Nat.zero_le _, h186.keep _ ⟨rfl, rfl, rfl, trivial⟩, hB152, rfl⟩ ?_
  rintro q187 w188 ⟨k, hk191, h189, hB190, hx193⟩
  have hm192 := h189.int (k := 5) (kd := .i64) (z := ((k : Nat) : Int)) rfl
  clear h186 hB152
  refine kS ?_
  refine kS ?_
  refine rp 5 ?_
  refine b0 (.C 0 248 <| .C 1 249 <| .L 2 250 0 15 <| .E 3 251 (.int .i64 ((i.links.length : Nat) : Int)) <| .E 4 252 (.bool (decide (((k : Nat) : Int) < ((i.links.length : Nat) : Int)))) <| .nil) [(252, .bool (decide (((k : Nat) : Int) < ((i.links.length : Nat) : Int)))), (1, .pointer (some ⟨b3, 0, none⟩)), (2, .int .i64 0), (5, .int .i64 ((k : Nat) : Int))] h189 (Kw.nil hB190) fun q194 h195 => ?_
  clear h189
  refine wpO_end ?_
  refine then_n ?_
  refine kC 252 (decide (((k : Nat) : Int) < ((i.links.length : Nat) : Int))) h195 (fun hc196 => ?_) (fun hc196 => ?_)
  ·
    have hp197 : (((k : Nat) : Int) < ((i.links.length : Nat) : Int)) := of_decide_eq_true hc196
    have hlt : k < i.links.length := by omega
    obtain ⟨x, hx⟩ : ∃ x, i.links[k]? = some x := ⟨i.links[k], List.getElem?_eq_getElem hlt⟩
    obtain ⟨ad, hA, hE0⟩ := hr.el (k * 2) [.int .i64 x.t, .string x.r] (by simp) (lkc_el i.links k x hx)
    subst hA
    refine c_skip (by kernel_rfl) ?_
    refine then_n ?_
    refine kS ?_
    refine c_block 1 (by kernel_rfl) ?_
    refine kS ?_
    refine rp 7 ?_
    refine b0 (.C 0 255 <| .L 1 256 0 15 <| .C 2 257 <| .nil) [(257, .int .i64 ((k : Nat) : Int)), (256, .slice (some ad) i.links.length c), (252, .bool (decide (((k : Nat) : Int) < ((i.links.length : Nat) : Int)))), (1, .pointer (some ⟨b3, 0, none⟩)), (2, .int .i64 0), (5, .int .i64 ((k : Nat) : Int))] h195 (Kw.nil hB190) fun q198 h199 => ?_
    clear h195
    refine eE 3 258 (.indexAddr 48 (.tmp 256) (.tmp 257)) 0 (.pointer (some ((ad.add (k * 2)).add 0))) h199 (hr := r_index0 (n := i.links.length) (c := c) (kd := .i64) (by kernel_rfl) (by kernel_rfl) hlt (by kernel_rfl)) fun q200 h201 => ?_
    clear h199
    refine b0 (.Y 4 259 0 0 2 <| .nil) [(259, .agg #[.int .i64 x.t, .string x.r]), (252, .bool (decide (((k : Nat) : Int) < ((i.links.length : Nat) : Int)))), (1, .pointer (some ⟨b3, 0, none⟩)), (2, .int .i64 0), (5, .int .i64 ((k : Nat) : Int))] h201 ((Kw.nil hB190).cons (hE0.below hB190.bel)) fun q202 h203 => ?_
    clear h201
    refine sA 5 6 (fun b => .pointer (some ⟨b, 0, none⟩)) (.cells #[.int .i64 0, .string (⟨#[]⟩ : ByteArray)] 118 (0, 0)) h203 gok_none hB190 (fun _ _ hq => trivial) (fun b206 w207 hB208 hN q204 h205 => ?_)
    clear h203 hB190 hN
    refine sW 6 0 0 [(b206, .cells #[.int .i64 x.t, .string x.r] 118 (0, 0)), (b3, .cells (insV i (some ad) c).cells 50 (0, 0))] h205 gok_none hB208 (.inr fun _ _ => trivial) (fun w211 hB212 hT q209 h210 => ?_)
    clear h205 hB208
    clear hT
    refine wpO_end ?_
    have h213 := h210.keep [(6, .pointer (some ⟨b206, 0, none⟩)), (252, .bool (decide (((k : Nat) : Int) < ((i.links.length : Nat) : Int)))), (1, .pointer (some ⟨b3, 0, none⟩)), (2, .int .i64 0), (5, .int .i64 ((k : Nat) : Int))] ⟨rfl, rfl, rfl, rfl, rfl, trivial⟩
    clear h210
    refine then_n ?_
    refine kS ?_
    refine kS ?_
    refine rp 8 ?_
    refine b0 (.C 0 260 <| .L 1 261 0 0 <| .E 2 262 (.bool (x.t != (0 : Int))) <| .C 3 263 <| .J 7 267 263 266 true (x.t != (0 : Int)) (x.t != (1 : Int)) (.C 4 264 <| .L 5 265 0 0 <| .E 6 266 (.bool (x.t != (1 : Int))) <| .nil) <| .nil) [(267, .bool ((x.t != (0 : Int)) && (x.t != (1 : Int)))), (6, .pointer (some ⟨b206, 0, none⟩)), (252, .bool (decide (((k : Nat) : Int) < ((i.links.length : Nat) : Int)))), (1, .pointer (some ⟨b3, 0, none⟩)), (2, .int .i64 0), (5, .int .i64 ((k : Nat) : Int))] h213 (Kw.nil hB212) fun q214 h215 => ?_
    clear h213
    refine wpO_end ?_
    refine then_n ?_
    refine kC 267 ((x.t != (0 : Int)) && (x.t != (1 : Int))) h215 (fun hc216 => ?_) (fun hc216 => ?_)
    ·
      refine kS ?_
      refine rp 1 ?_
      refine b0 (.C 0 2 <| .nil) [(2, .int .i64 11), (267, .bool ((x.t != (0 : Int)) && (x.t != (1 : Int)))), (6, .pointer (some ⟨b206, 0, none⟩)), (252, .bool (decide (((k : Nat) : Int) < ((i.links.length : Nat) : Int)))), (1, .pointer (some ⟨b3, 0, none⟩)), (5, .int .i64 ((k : Nat) : Int))] h215 (Kw.nil hB212) fun q217 h218 => ?_
      clear h215
      refine wpO_end ?_
      refine then_n ?_
      refine c_ret (by kernel_rfl) ?_
      refine then_r (inB_r (then_r (then_r (inB_r (then_r ?_)))))
      refine ret1 (t := 2) (v := .int .i64 11) h218 (by kernel_rfl) (by kernel_rfl) ?_
      exact ⟨ret_eq (congrArg (Value.int .i64) (show refI i = 11 from htop.trans (hx193.trans ((refL_at i k x hx).trans (cT hc216)))).symm), hB212.bel⟩
    refine c_skip (by kernel_rfl) ?_
    refine then_n ?_
    refine kS ?_
    refine kS ?_
    refine rp 4 ?_
    refine b0 (.C 0 268 <| .L 1 269 0 1 <| .nil) [(269, .string x.r), (267, .bool ((x.t != (0 : Int)) && (x.t != (1 : Int)))), (6, .pointer (some ⟨b206, 0, none⟩)), (252, .bool (decide (((k : Nat) : Int) < ((i.links.length : Nat) : Int)))), (1, .pointer (some ⟨b3, 0, none⟩)), (2, .int .i64 0), (5, .int .i64 ((k : Nat) : Int))] h215 (Kw.nil hB212) fun q219 h220 => ?_
    clear h215
    refine sC 2 270 h220 gok_none (c50_2 x.r w211) ?_
    rintro _ w223 ⟨rfl, hb224⟩
    have hB225 := hB212.call hb224
    refine ⟨_, rfl, trivial, fun q221 h222 => ?_⟩
    clear h220 hB212 hb224
    refine b0 (.E 3 271 (.bool (!(rfB x.r))) <| .nil) [(271, .bool (!(rfB x.r))), (267, .bool ((x.t != (0 : Int)) && (x.t != (1 : Int)))), (6, .pointer (some ⟨b206, 0, none⟩)), (252, .bool (decide (((k : Nat) : Int) < ((i.links.length : Nat) : Int)))), (1, .pointer (some ⟨b3, 0, none⟩)), (2, .int .i64 0), (5, .int .i64 ((k : Nat) : Int))] h222 (Kw.nil hB225) fun q226 h227 => ?_
    clear h222
    refine wpO_end ?_
    refine then_n ?_
    refine kC 271 (!(rfB x.r)) h227 (fun hc228 => ?_) (fun hc228 => ?_)
    ·
      refine kS ?_
      refine rp 1 ?_
      refine b0 (.C 0 2 <| .nil) [(2, .int .i64 6), (271, .bool (!(rfB x.r))), (267, .bool ((x.t != (0 : Int)) && (x.t != (1 : Int)))), (6, .pointer (some ⟨b206, 0, none⟩)), (252, .bool (decide (((k : Nat) : Int) < ((i.links.length : Nat) : Int)))), (1, .pointer (some ⟨b3, 0, none⟩)), (5, .int .i64 ((k : Nat) : Int))] h227 (Kw.nil hB225) fun q229 h230 => ?_
      clear h227
      refine wpO_end ?_
      refine then_n ?_
      refine c_ret (by kernel_rfl) ?_
      refine then_r (inB_r (then_r (then_r (inB_r (then_r ?_)))))
      refine ret1 (t := 2) (v := .int .i64 6) h230 (by kernel_rfl) (by kernel_rfl) ?_
      exact ⟨ret_eq (congrArg (Value.int .i64) (show refI i = 6 from htop.trans (hx193.trans ((refL_at i k x hx).trans ((cF hc216).trans (cT hc228))))).symm), hB225.bel⟩
    refine c_skip (by kernel_rfl) ?_
    refine then_n ?_
    refine kS ?_
    refine kS ?_
    refine rp 5 ?_
    refine b0 (.C 0 272 <| .L 1 273 0 1 <| .C 2 274 <| .L 3 275 1 0 <| .E 4 276 (.bool (x.r.toList == i.ref.toList)) <| .nil) [(276, .bool (x.r.toList == i.ref.toList)), (271, .bool (!(rfB x.r))), (267, .bool ((x.t != (0 : Int)) && (x.t != (1 : Int)))), (6, .pointer (some ⟨b206, 0, none⟩)), (252, .bool (decide (((k : Nat) : Int) < ((i.links.length : Nat) : Int)))), (1, .pointer (some ⟨b3, 0, none⟩)), (2, .int .i64 0), (5, .int .i64 ((k : Nat) : Int))] h227 (Kw.nil hB225) fun q231 h232 => ?_
    clear h227
    refine wpO_end ?_
    refine then_n ?_
    refine kC 276 (x.r.toList == i.ref.toList) h232 (fun hc233 => ?_) (fun hc233 => ?_)
    ·
      refine kS ?_
      refine rp 1 ?_
      refine b0 (.C 0 2 <| .nil) [(2, .int .i64 26), (276, .bool (x.r.toList == i.ref.toList)), (271, .bool (!(rfB x.r))), (267, .bool ((x.t != (0 : Int)) && (x.t != (1 : Int)))), (6, .pointer (some ⟨b206, 0, none⟩)), (252, .bool (decide (((k : Nat) : Int) < ((i.links.length : Nat) : Int)))), (1, .pointer (some ⟨b3, 0, none⟩)), (5, .int .i64 ((k : Nat) : Int))] h232 (Kw.nil hB225) fun q234 h235 => ?_
      clear h232
      refine wpO_end ?_
      refine then_n ?_
      refine c_ret (by kernel_rfl) ?_
      refine then_r (inB_r (then_r (then_r (inB_r (then_r ?_)))))
      refine ret1 (t := 2) (v := .int .i64 26) h235 (by kernel_rfl) (by kernel_rfl) ?_
      exact ⟨ret_eq (congrArg (Value.int .i64) (show refI i = 26 from htop.trans (hx193.trans ((refL_at i k x hx).trans ((cF hc216).trans ((cF hc228).trans (cT hc233)))))).symm), hB225.bel⟩
    refine c_skip (by kernel_rfl) ?_
    refine then_n ?_
    refine kS ?_
    refine rp 1 ?_
    refine b0 (.C 0 7 <| .nil) [(7, .int .i64 0), (276, .bool (x.r.toList == i.ref.toList)), (271, .bool (!(rfB x.r))), (267, .bool ((x.t != (0 : Int)) && (x.t != (1 : Int)))), (6, .pointer (some ⟨b206, 0, none⟩)), (252, .bool (decide (((k : Nat) : Int) < ((i.links.length : Nat) : Int)))), (1, .pointer (some ⟨b3, 0, none⟩)), (2, .int .i64 0), (5, .int .i64 ((k : Nat) : Int))] h232 (Kw.nil hB225) fun q236 h237 => ?_
    clear h232
    refine wpO_end ?_
    refine then_n ?_
    refine c_block 2 (by kernel_rfl) ?_
    refine c_loop (by kernel_rfl) (fun qa qw => ∃ j : Nat, (j ≤ k) ∧ Fr 291 [(1, .pointer (some ⟨b3, 0, none⟩)), (2, .int .i64 0), (5, .int .i64 ((k : Nat) : Int)), (6, .pointer (some ⟨b206, 0, none⟩)), (7, .int .i64 ((j : Nat) : Int))] qa ∧ Bx w [(b206, .cells #[.int .i64 x.t, .string x.r] 118 (0, 0)), (b3, .cells (insV i (some ad) c).cells 50 (0, 0))] qw ∧ (∀ (q : Nat) (y : Lk), q < j → i.links[q]? = some y → (y.r.toList == x.r.toList) = false)) (fun qa _ => (((k : Int)) - intAt qa 7).toNat) ⟨0, Nat.zero_le _, h237.keep _ ⟨rfl, rfl, rfl, rfl, rfl, trivial⟩, hB225, fun q _ hq => absurd hq (Nat.not_lt_zero _)⟩ ?_
    rintro q238 w239 ⟨j, hk242, h240, hB241, hx244⟩
    have hm243 := h240.int (k := 7) (kd := .i64) (z := ((j : Nat) : Int)) rfl
    clear h237 hB225
    refine kS ?_
    refine kS ?_
    refine rp 3 ?_
    refine b0 (.C 0 277 <| .C 1 278 <| .E 2 279 (.bool (decide (((j : Nat) : Int) < ((k : Nat) : Int)))) <| .nil) [(279, .bool (decide (((j : Nat) : Int) < ((k : Nat) : Int)))), (1, .pointer (some ⟨b3, 0, none⟩)), (2, .int .i64 0), (5, .int .i64 ((k : Nat) : Int)), (6, .pointer (some ⟨b206, 0, none⟩)), (7, .int .i64 ((j : Nat) : Int))] h240 (Kw.nil hB241) fun q245 h246 => ?_
    clear h240
    refine wpO_end ?_
    refine then_n ?_
    refine kC 279 (decide (((j : Nat) : Int) < ((k : Nat) : Int))) h246 (fun hc247 => ?_) (fun hc247 => ?_)
    ·
      have hp248 : (((j : Nat) : Int) < ((k : Nat) : Int)) := of_decide_eq_true hc247
      have hjk : j < k := by omega
      obtain ⟨y, hy⟩ : ∃ y, i.links[j]? = some y := ⟨i.links[j], List.getElem?_eq_getElem (by omega)⟩
      obtain ⟨ad', hA, hE1⟩ := hr.el (j * 2) [.int .i64 y.t, .string y.r] (by simp) (lkc_el i.links j y hy)
      cases hA
      refine c_skip (by kernel_rfl) ?_
      refine then_n ?_
      refine kS ?_
      refine c_block 3 (by kernel_rfl) ?_
      refine kS ?_
      have hD249 := hB241.drew
      refine rd (Bx w [(b206, .cells #[.int .i64 x.t, .string x.r] 118 (0, 0)), (b3, .cells (insV i (some ad) c).cells 50 (0, 0))]) 9 [⟨0, true, 0, 2, 7770675568902916283677847627294075626569627356208558085007249638955617140820833992704⟩, ⟨1, true, 1, 7770675568902916283677847627294075626569627356208558085007249638955617140820833992704, 15541351137805832567355695254588151253139254712417116170014499277911234281641667985408⟩, ⟨2, true, 0, 128, 31082702275611665134711390509176302506278509424834232340028998555822468563283335970816⟩, ⟨3, true, 6, 46624053413417497702067085763764453759417764137251348510043497833733702844925003956224, 62165404551223330269422781018352605012557018849668464680057997111644937126566671941632⟩, ⟨4, true, 8, 62165404551223330269422781018352605012557018849668464680057997111644937126566671941632, 124330809102446660538845562036705210025114037699336929360115994223289874253133343883264⟩, ⟨5, true, 16, 124330809102446660538845562036705210025114037699336929360115994223289874253133343883264, 248661618204893321077691124073410420050228075398673858720231988446579748506266687766528⟩, ⟨6, true, 0, 64, 497323236409786642155382248146820840100456150797347717440463976893159497012533375533056⟩, ⟨7, true, 64, 497323236409786642155382248146820840100456150797347717440463976893159497012533375533056, 994646472819573284310764496293641680200912301594695434880927953786318994025066751066112⟩, ⟨8, true, 160, 1243308091024466605388455620367052100251140376993369293601159942232898742531333438832640, 1989292945639146568621528992587283360401824603189390869761855907572637988050133502132224⟩] hD249 ?_
      generalize World.drew w239 = w250 at hD249 ⊢
      refine d0 (.C 0 282 <| .L 1 283 1 15 <| .C 2 284 <| .nil) [(284, .int .i64 ((j : Nat) : Int)), (283, .slice (some ad) i.links.length c), (279, .bool (decide (((j : Nat) : Int) < ((k : Nat) : Int)))), (1, .pointer (some ⟨b3, 0, none⟩)), (2, .int .i64 0), (5, .int .i64 ((k : Nat) : Int)), (6, .pointer (some ⟨b206, 0, none⟩)), (7, .int .i64 ((j : Nat) : Int))] h246 (fun _ hS => Kw.nil hS) fun q251 h252 => ?_
      clear h246
      refine fE 3 285 (.indexAddr 48 (.tmp 283) (.tmp 284)) 0 (.pointer (some ((ad.add (j * 2)).add 0))) h252 (hr := fun _ hS => r_index0 (n := i.links.length) (c := c) (kd := .i64) (by kernel_rfl) (by kernel_rfl) (by omega) (by kernel_rfl)) fun q253 h254 => ?_
      clear h252
      refine d0 (.F 4 286 0 0 1 <| .X 5 287 0 1 <| .C 6 288 <| .L 7 289 0 1 <| .E 8 290 (.bool (y.r.toList == x.r.toList)) <| .nil) [(290, .bool (y.r.toList == x.r.toList)), (279, .bool (decide (((j : Nat) : Int) < ((k : Nat) : Int)))), (1, .pointer (some ⟨b3, 0, none⟩)), (2, .int .i64 0), (5, .int .i64 ((k : Nat) : Int)), (6, .pointer (some ⟨b206, 0, none⟩)), (7, .int .i64 ((j : Nat) : Int))] h254 (fun _ hS => (Kw.nil hS).cons (hE1.below hS.bel)) fun q255 h256 => ?_
      clear h254
      refine wpO_end ?_
      refine then_n ?_
      refine kC 290 (y.r.toList == x.r.toList) h256 (fun hc257 => ?_) (fun hc257 => ?_)
      ·
        refine kS ?_
        refine rp 1 ?_
        refine b0 (.C 0 2 <| .nil) [(2, .int .i64 7), (290, .bool (y.r.toList == x.r.toList)), (279, .bool (decide (((j : Nat) : Int) < ((k : Nat) : Int)))), (1, .pointer (some ⟨b3, 0, none⟩)), (5, .int .i64 ((k : Nat) : Int)), (6, .pointer (some ⟨b206, 0, none⟩)), (7, .int .i64 ((j : Nat) : Int))] h256 (Kw.nil hD249) fun q258 h259 => ?_
        clear h256
        refine wpO_end ?_
        refine then_n ?_
        refine c_ret (by kernel_rfl) ?_
        refine inB_r (then_r (then_r (inB_r (inB_r (then_r (then_r (inB_r (then_r ?_))))))))
        refine ret1 (t := 2) (v := .int .i64 7) h259 (by kernel_rfl) (by kernel_rfl) ?_
        exact ⟨ret_eq (congrArg (Value.int .i64) (show refI i = 7 from htop.trans (hx193.trans ((refL_at i k x hx).trans ((cF hc216).trans ((cF hc228).trans ((cF hc233).trans (cT (dup_hit hy hjk hc257)))))))).symm), hD249.bel⟩
      refine c_skip (by kernel_rfl) ?_
      refine inB_n ?_
      refine then_n ?_
      refine rp 3 ?_
      refine b0 (.C 0 280 <| .E 1 281 (.int .i64 (IntKind.i64.wrap (((j : Nat) : Int) + 1))) <| .C 2 7 <| .nil) [(7, .int .i64 (IntKind.i64.wrap (((j : Nat) : Int) + 1))), (290, .bool (y.r.toList == x.r.toList)), (279, .bool (decide (((j : Nat) : Int) < ((k : Nat) : Int)))), (1, .pointer (some ⟨b3, 0, none⟩)), (2, .int .i64 0), (5, .int .i64 ((k : Nat) : Int)), (6, .pointer (some ⟨b206, 0, none⟩))] h256 (Kw.nil hD249) fun q260 h261 => ?_
      clear h256
      refine wpO_end ?_
      have h262 := h261.keep [(1, .pointer (some ⟨b3, 0, none⟩)), (2, .int .i64 0), (5, .int .i64 ((k : Nat) : Int)), (6, .pointer (some ⟨b206, 0, none⟩)), (7, .int .i64 (((j + 1) : Nat) : Int))] ⟨rfl, rfl, rfl, rfl, look_int rfl (wrap_succ (by have := hn; omega)), trivial⟩
      have hm263 := h262.int (k := 7) (kd := .i64) (z := (((j + 1) : Nat) : Int)) rfl
      refine then_n ⟨⟨j + 1, by omega, h262, hD249, fun q z hq hz => by rcases Nat.lt_succ_iff_lt_or_eq.1 hq with h' | rfl; exact hx244 q z h' hz; rw [hy] at hz; cases hz; exact hc257⟩, ?_⟩
      show (((k : Int)) - intAt _ 7).toNat < (((k : Int)) - intAt _ 7).toNat
      rw [hm243, hm263]; omega
    have hp264 : ¬ (((j : Nat) : Int) < ((k : Nat) : Int)) := of_decide_eq_false hc247
    have hdup := dup_miss hx244 (by omega : k ≤ j)
    refine c_exit 2 (by kernel_rfl) ?_
    refine then_e (then_e (inB_hit ?_))
    refine inB_n ?_
    refine then_n ?_
    refine rp 3 ?_
    refine b0 (.C 0 253 <| .E 1 254 (.int .i64 (IntKind.i64.wrap (((k : Nat) : Int) + 1))) <| .C 2 5 <| .nil) [(5, .int .i64 (IntKind.i64.wrap (((k : Nat) : Int) + 1))), (279, .bool (decide (((j : Nat) : Int) < ((k : Nat) : Int)))), (1, .pointer (some ⟨b3, 0, none⟩)), (2, .int .i64 0), (6, .pointer (some ⟨b206, 0, none⟩)), (7, .int .i64 ((j : Nat) : Int))] h246 (Kw.nil hB241) fun q265 h266 => ?_
    clear h246
    refine wpO_end ?_
    have h267 := h266.keep [(1, .pointer (some ⟨b3, 0, none⟩)), (2, .int .i64 0), (5, .int .i64 (((k + 1) : Nat) : Int))] ⟨rfl, rfl, look_int rfl (wrap_succ (by have := hn; omega)), trivial⟩
    have hm268 := h267.int (k := 5) (kd := .i64) (z := (((k + 1) : Nat) : Int)) rfl
    refine then_n ⟨⟨k + 1, by omega, h267, hB241.tail, hx193.trans ((refL_at i k x hx).trans ((cF hc216).trans ((cF hc228).trans ((cF hc233).trans (cF hdup)))))⟩, ?_⟩
    show (((i.links.length : Int)) - intAt _ 5).toNat < (((i.links.length : Int)) - intAt _ 5).toNat
    rw [hm192, hm268]; omega
  have hp269 : ¬ (((k : Nat) : Int) < ((i.links.length : Nat) : Int)) := of_decide_eq_false hc196
  refine c_exit 0 (by kernel_rfl) ?_
  refine then_e (then_e (inB_hit ?_))
  refine then_n ?_
  refine kS ?_
  refine rp 1 ?_
  refine b0 (.C 0 2 <| .nil) [(2, .int .i64 0)] h195 (Kw.nil hB190) fun q270 h271 => ?_
  clear h195
  refine wpO_end ?_
  refine then_n ?_
  refine c_ret (by kernel_rfl) ?_
  refine ret1 (t := 2) (v := .int .i64 0) h271 (by kernel_rfl) (by kernel_rfl) ?_
  exact ⟨ret_eq (congrArg (Value.int .i64) (show refI i = 0 from htop.trans (hx193.trans (refL_end i k (by omega)))).symm), hB190.bel⟩

end Go.Proofs.YtljegdokbifoiaaGreatDoor.Af
