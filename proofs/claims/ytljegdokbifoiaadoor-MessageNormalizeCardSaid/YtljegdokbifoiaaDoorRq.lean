/- Requests: conversion and equality. Short lists of links. -/
import Derived.Test.YtljegdokbifoiaaDoorRqp
import Derived.Test.YtljegdokbifoiaaDoorAt
namespace Go.Proofs.YtljegdokbifoiaaDoor.Af
open Go.RowKit
set_option maxHeartbeats 4000000 in
set_option maxRecDepth 20000 in
theorem c30 (m : Am) (w : World) : Calls Tryd.prog 30 #[amV m] w (fun e w' => e = .returned (amV m) ∧ Below w.heap.size w w') := by
  refine enter Tryd.func30 (by kernel_rfl) ?_ (by kernel_rfl)
  intro q0 h0
  replace h0 := h0.conv (l' := [(0, amV m)]) rfl
  have hB := Bx.refl w
  refine kS ?_
  refine rp 2 ?_
  refine sA 0 1 (fun b => .pointer (some ⟨b, 0, none⟩)) (.cells (amV m).cells 40 (0, 0)) h0 gok_none hB (fun _ _ hq => trivial) (fun b3 w4 hB5 hN q1 h2 => ?_)
  clear h0 hB hN
  refine sA 1 2 (fun b => .pointer (some ⟨b, 0, none⟩)) (.cells #[.bool false, .bool false, .bool false, .bool false, .int .i64 0, .int .i64 0, .int .i64 0, .bool false, .int .i64 0] 43 (0, 0)) h2 gok_none hB5 (fun _ _ hq => trivial) (fun b8 w9 hB10 hN q6 h7 => ?_)
  clear h2 hB5 hN
  refine wpO_end ?_
  have h11 := h7.keep [(2, .pointer (some ⟨b8, 0, none⟩)), (1, .pointer (some ⟨b3, 0, none⟩))] ⟨rfl, rfl, trivial⟩
  clear h7
  refine then_n ?_
  refine kS ?_
  refine rp 20 ?_
  refine b0 (.C 0 3 <| .L 1 4 1 0 <| .C 2 5 <| .L 3 6 1 1 <| .C 4 7 <| .L 5 8 1 2 <| .C 6 9 <| .L 7 10 1 3 <| .C 8 11 <| .L 9 12 1 4 <| .C 10 13 <| .L 11 14 1 5 <| .C 12 15 <| .L 13 16 1 6 <| .C 14 17 <| .L 15 18 1 7 <| .C 16 19 <| .L 17 20 1 8 <| .E 18 21 (amV m) <| .nil) [(21, amV m), (2, .pointer (some ⟨b8, 0, none⟩))] h11 (Kw.nil hB10) fun q12 h13 => ?_
  clear h11
  refine sW 19 0 0 [(b8, .cells (amV m).cells 43 (0, 0)), (b3, .cells (amV m).cells 40 (0, 0))] h13 gok_none hB10 (.inr fun _ _ => trivial) (fun w16 hB17 hT q14 h15 => ?_)
  clear h13 hB10
  clear hT
  refine wpO_end ?_
  have h18 := h15.keep [(2, .pointer (some ⟨b8, 0, none⟩))] ⟨rfl, trivial⟩
  clear h15
  refine then_n ?_
  refine c_ret (by kernel_rfl) ?_
  refine retC (t := 2) (T := 43) (b := b8) (vs := [.bool m.hasAmt, .bool m.hasDay, .bool m.hasPrio, .bool m.hasPart, .int .i64 m.amt, .int .i64 m.sday, .int .i64 m.prio, .bool m.part, .int .i64 m.minlot]) h18 (by kernel_rfl) (by kernel_rfl) hB17 0 (by kernel_rfl) (by kernel_rfl) (by kernel_rfl) ?_
  exact ⟨rfl, hB17.bel⟩

set_option maxHeartbeats 4000000 in
set_option maxRecDepth 20000 in
theorem c23 (q : Rq) (A : Option Addr) (c : Nat) (w : World) (hn : q.ins.links.length ≤ 1000) (hr : Rd w A (lkc q.ins.links)) : Calls Tryd.prog 23 #[rqV q A c] w (fun e w' => ∃ (A' : Option Addr) (c' : Nat), e = .returned (rqV q A' c') ∧ w'.ownsRow w.heap.size 66 2 (.slice A' q.ins.links.length c') q.ins.links.length (lkc q.ins.links) ∧ Below w.heap.size w w') := by
  refine enter Tryd.func23 (by kernel_rfl) ?_ (by kernel_rfl)
  intro q0 h0
  replace h0 := h0.conv (l' := [(0, rqV q A c)]) rfl
  have hB := Bx.refl w
  refine kS ?_
  refine rp 2 ?_
  refine sA 0 1 (fun b => .pointer (some ⟨b, 0, none⟩)) (.cells (rqV q A c).cells 42 (0, 0)) h0 gok_none hB (fun _ _ hq => trivial) (fun b3 w4 hB5 hN q1 h2 => ?_)
  clear h0 hB hN
  refine sA 1 2 (fun b => .pointer (some ⟨b, 0, none⟩)) (.cells #[.int .i64 0, .string (⟨#[]⟩ : ByteArray), .string (⟨#[]⟩ : ByteArray), .string (⟨#[]⟩ : ByteArray), .int .i64 0, .string (⟨#[]⟩ : ByteArray), .string (⟨#[]⟩ : ByteArray), .int .i64 0, .string (⟨#[]⟩ : ByteArray), .int .i64 0, .int .i64 0, .int .i64 0, .int .i64 0, .int .i64 0, .bool false, .int .i64 0, .bool false, .bool false, .slice none 0 0, .bool false, .bool false, .bool false, .bool false, .int .i64 0, .int .i64 0, .int .i64 0, .bool false, .int .i64 0] 45 (0, 0)) h2 gok_none hB5 (fun _ _ hq => trivial) (fun b8 w9 hB10 hN q6 h7 => ?_)
  clear h2 hB5 hN
  refine wpO_end ?_
  have h11 := h7.keep [(2, .pointer (some ⟨b8, 0, none⟩)), (1, .pointer (some ⟨b3, 0, none⟩))] ⟨rfl, rfl, trivial⟩
  clear h7
  refine then_n ?_
  refine kS ?_
  have hD12 := hB10.drew
  refine rd (Bx w [(b3, .cells (rqV q A c).cells 42 (0, 0))]) 14 [⟨0, true, 0, 2, 8⟩, ⟨1, true, 1, 8, 16⟩, ⟨2, true, 0, 2, 32⟩, ⟨3, true, 4, 32, 64⟩, ⟨4, true, 0, 2, 128⟩, ⟨5, true, 16, 128, 256⟩, ⟨6, true, 0, 2, 512⟩, ⟨7, true, 64, 512, 1024⟩, ⟨9, true, 0, 2, 4096⟩, ⟨10, true, 512, 4096, 8192⟩, ⟨8, false, 128, 1024, 2048⟩, ⟨11, false, 1280, 8192, 16384⟩, ⟨12, true, 2346, 18768, 32768⟩, ⟨13, false, 8191, 32772, 0⟩] hD12.tail ?_
  generalize World.drew w9 = w13 at hD12 ⊢
  refine d0 (.C 0 3 <| .L 1 4 0 0 <| .C 2 5 <| .L 3 6 0 1 <| .C 4 7 <| .L 5 8 0 2 <| .C 6 9 <| .S 7 10 0 3 16 <| .C 9 12 <| .S 10 13 0 19 9 <| .nil) [(13, amV q.am), (10, insV q.ins A c), (8, .string q.ref), (6, .string q.sender), (4, .int .i64 q.op), (2, .pointer (some ⟨b8, 0, none⟩))] h11 (fun _ hS => Kw.nil hS) fun q14 h15 => ?_
  clear h11
  refine sC 8 11 h15 gok_none (c13 q.ins A c w13 (by omega) (hr.below hD12.bel)) ?_
  rintro _ w20 ⟨A18, cp19, rfl, ho24, hb21⟩
  have ho23 := own_base ho24 hD12.bel.size
  have hB22 := hD12.call hb21
  refine ⟨_, rfl, hB22.tail, fun q16 h17 => ?_⟩
  clear h15 hD12 hb21
  refine sC 11 14 h17 gok_none (c30 q.am w20) ?_
  rintro _ w27 ⟨rfl, hb28⟩
  have hB29 := hB22.call hb28
  have ho30 := own_below ho23 hb28
  refine ⟨_, rfl, hB29.tail, fun q25 h26 => ?_⟩
  clear h17 hB22 hb28
  refine d0 (.E 12 15 (rqV q A18 cp19) <| .nil) [(15, rqV q A18 cp19), (2, .pointer (some ⟨b8, 0, none⟩))] h26 (fun _ hS => Kw.nil hS) fun q31 h32 => ?_
  clear h26
  refine sW 13 0 0 [(b8, .cells (rqV q A18 cp19).cells 45 (0, 0)), (b3, .cells (rqV q A c).cells 42 (0, 0))] h32 gok_none hB29 (.inr fun _ hq => hq.tail) (fun w35 hB36 hT q33 h34 => ?_)
  clear h32 hB29
  have ho37 := own_turned ho30 hT (by kernel_rfl)
  clear hT
  refine wpO_end ?_
  have h38 := h34.keep [(2, .pointer (some ⟨b8, 0, none⟩))] ⟨rfl, trivial⟩
  clear h34
  refine then_n ?_
  refine c_ret (by kernel_rfl) ?_
  refine retC (t := 2) (T := 45) (b := b8) (vs := [.int .i64 q.op, .string q.sender, .string q.ref, .string q.ins.ref, .int .i64 q.ins.kind, .string q.ins.sender, .string q.ins.cpty, .int .i64 q.ins.side, .string q.ins.asset, .int .i64 q.ins.qty, .int .i64 q.ins.amt, .int .i64 q.ins.tday, .int .i64 q.ins.sday, .int .i64 q.ins.prio, .bool q.ins.part, .int .i64 q.ins.minlot, .bool q.ins.hold, .bool q.ins.resv, .slice A18 q.ins.links.length cp19, .bool q.am.hasAmt, .bool q.am.hasDay, .bool q.am.hasPrio, .bool q.am.hasPart, .int .i64 q.am.amt, .int .i64 q.am.sday, .int .i64 q.am.prio, .bool q.am.part, .int .i64 q.am.minlot]) h38 (by kernel_rfl) (by kernel_rfl) hB36 0 (by kernel_rfl) (by kernel_rfl) (by kernel_rfl) ?_
  exact ⟨_, _, rfl, ho37, hB36.bel⟩

set_option maxHeartbeats 4000000 in
set_option maxRecDepth 20000 in
theorem c26 (q r : Rq) (A B : Option Addr) (c d : Nat) (w : World) (hn : q.ins.links.length ≤ 4611686018427387904) (hr : Rd w A (lkc q.ins.links)) (hr2 : Rd w B (lkc r.ins.links)) : Calls Tryd.prog 26 #[rqV q A c, rqV r B d] w fun e w' => e = .returned (.bool (rqEq q r)) ∧ Below w.heap.size w w' := by
  refine enter Tryd.func26 (by kernel_rfl) ?_ (by kernel_rfl)
  intro q0 h0
  replace h0 := h0.conv (l' := [(0, rqV q A c), (1, rqV r B d)]) rfl
  have hB := Bx.refl w
  refine kS ?_
  refine rp 3 ?_
  refine sA 0 2 (fun b => .pointer (some ⟨b, 0, none⟩)) (.cells (rqV q A c).cells 45 (0, 0)) h0 gok_none hB (fun _ _ hq => trivial) (fun b3 w4 hB5 hN q1 h2 => ?_)
  clear h0 hB hN
  refine sA 1 3 (fun b => .pointer (some ⟨b, 0, none⟩)) (.cells (rqV r B d).cells 45 (0, 0)) h2 gok_none hB5 (fun _ _ hq => trivial) (fun b8 w9 hB10 hN q6 h7 => ?_)
  clear h2 hB5 hN
  refine b0 (.C 2 4 <| .nil) [(4, .bool false), (3, .pointer (some ⟨b8, 0, none⟩)), (2, .pointer (some ⟨b3, 0, none⟩))] h7 (Kw.nil hB10) fun q11 h12 => ?_
  clear h7
  refine wpO_end ?_
  refine then_n ?_
  refine kS ?_
  refine rp 34 ?_
  refine b0 (.C 0 5 <| .L 1 6 1 0 <| .C 2 7 <| .L 3 8 0 0 <| .E 4 9 (.bool (q.op == r.op)) <| .C 5 10 <| .J 11 16 10 15 true (q.op == r.op) (q.sender.toList == r.sender.toList) (.C 6 11 <| .L 7 12 1 1 <| .C 8 13 <| .L 9 14 0 1 <| .E 10 15 (.bool (q.sender.toList == r.sender.toList)) <| .nil) <| .C 12 17 <| .J 18 23 17 22 true ((q.op == r.op) && (q.sender.toList == r.sender.toList)) (q.ref.toList == r.ref.toList) (.C 13 18 <| .L 14 19 1 2 <| .C 15 20 <| .L 16 21 0 2 <| .E 17 22 (.bool (q.ref.toList == r.ref.toList)) <| .nil) <| .C 19 24 <| .nil) [(24, .bool (((q.op == r.op) && (q.sender.toList == r.sender.toList)) && (q.ref.toList == r.ref.toList))), (4, .bool false), (3, .pointer (some ⟨b8, 0, none⟩)), (2, .pointer (some ⟨b3, 0, none⟩))] h12 (Kw.nil hB10) fun q13 h14 => ?_
  clear h12
  refine wpO_cut [(20, false), (21, false), (22, false), (23, false), (24, false), (25, false)] [(26, false), (27, false), (28, false), (29, false), (30, false), (31, false), (32, false), (33, false)] (fun qa qw => Fr 38 [(30, .bool ((((q.op == r.op) && (q.sender.toList == r.sender.toList)) && (q.ref.toList == r.ref.toList)) && (insEq q.ins r.ins))), (4, .bool false), (3, .pointer (some ⟨b8, 0, none⟩)), (2, .pointer (some ⟨b3, 0, none⟩))] qa ∧ Bx w [(b8, .cells (rqV r B d).cells 45 (0, 0)), (b3, .cells (rqV q A c).cells 45 (0, 0))] qw) ?_ ?_
  ·
    rcases Bool.eq_false_or_eq_true (((q.op == r.op) && (q.sender.toList == r.sender.toList)) && (q.ref.toList == r.ref.toList)) with hc15 | hc15
    ·
      refine b1 24 hc15 (.C 20 25 <| .S 21 26 1 3 16 <| .C 22 27 <| .S 23 28 0 3 16 <| .nil) [(28, insV r.ins B d), (26, insV q.ins A c), (24, .bool (((q.op == r.op) && (q.sender.toList == r.sender.toList)) && (q.ref.toList == r.ref.toList))), (4, .bool false), (3, .pointer (some ⟨b8, 0, none⟩)), (2, .pointer (some ⟨b3, 0, none⟩))] h14 (Kw.nil hB10) fun q16 h17 => ?_
      clear h14
      refine sC 24 29 (g := (some (19, true))) h17 (g1 24 hc15) (c24 q.ins r.ins A B c d w9 (show q.ins.links.length ≤ 4611686018427387904 by omega) (hr.below hB10.bel) (hr2.below hB10.bel)) ?_
      rintro _ w20 ⟨rfl, hb21⟩
      have hB22 := hB10.call hb21
      refine ⟨_, rfl, trivial, fun q18 h19 => ?_⟩
      clear h17 hB10 hb21
      refine eE 25 30 (.pick (.tmp 24) (.tmp 29) (.const (.bool false))) 4 (.bool ((((q.op == r.op) && (q.sender.toList == r.sender.toList)) && (q.ref.toList == r.ref.toList)) && (insEq q.ins r.ins))) h19 (hr := r_and (c := ((q.op == r.op) && (q.sender.toList == r.sender.toList)) && (q.ref.toList == r.ref.toList)) (d := (insEq q.ins r.ins)) (by kernel_rfl) (fun _ => by kernel_rfl)) fun q23 h24 => ?_
      clear h19
      exact ⟨h24.keep _ ⟨rfl, rfl, rfl, rfl, trivial⟩, hB22⟩
    ·
      refine b1 24 hc15 (.K 20 25 <| .K 21 26 <| .K 22 27 <| .K 23 28 <| .K 24 29 <| .nil) [(29, undef), (24, .bool (((q.op == r.op) && (q.sender.toList == r.sender.toList)) && (q.ref.toList == r.ref.toList))), (4, .bool false), (3, .pointer (some ⟨b8, 0, none⟩)), (2, .pointer (some ⟨b3, 0, none⟩))] h14 (Kw.nil hB10) fun q25 h26 => ?_
      clear h14
      refine eE 25 30 (.pick (.tmp 24) (.tmp 29) (.const (.bool false))) 4 (.bool ((((q.op == r.op) && (q.sender.toList == r.sender.toList)) && (q.ref.toList == r.ref.toList)) && (insEq q.ins r.ins))) h26 (hr := r_and (c := ((q.op == r.op) && (q.sender.toList == r.sender.toList)) && (q.ref.toList == r.ref.toList)) (d := (insEq q.ins r.ins)) (by kernel_rfl) (fun e29 => Bool.noConfusion (e29.symm.trans hc15))) fun q27 h28 => ?_
      clear h26
      exact ⟨h28.keep _ ⟨rfl, rfl, rfl, rfl, trivial⟩, hB10⟩
  rintro q30 w31 ⟨h32, hB33⟩
  refine b0 (.C 26 31 <| .nil) [(31, .bool ((((q.op == r.op) && (q.sender.toList == r.sender.toList)) && (q.ref.toList == r.ref.toList)) && (insEq q.ins r.ins))), (4, .bool false), (3, .pointer (some ⟨b8, 0, none⟩)), (2, .pointer (some ⟨b3, 0, none⟩))] h32 (Kw.nil hB33) fun q34 h35 => ?_
  clear h32
  refine wpO_cut [(27, false), (28, false), (29, false), (30, false), (31, false), (32, false)] [(33, false)] (fun qa qw => Fr 38 [(37, .bool (((((q.op == r.op) && (q.sender.toList == r.sender.toList)) && (q.ref.toList == r.ref.toList)) && (insEq q.ins r.ins)) && (amEq q.am r.am))), (4, .bool false)] qa ∧ Bx w [(b8, .cells (rqV r B d).cells 45 (0, 0)), (b3, .cells (rqV q A c).cells 45 (0, 0))] qw) ?_ ?_
  ·
    rcases Bool.eq_false_or_eq_true ((((q.op == r.op) && (q.sender.toList == r.sender.toList)) && (q.ref.toList == r.ref.toList)) && (insEq q.ins r.ins)) with hc36 | hc36
    ·
      refine b1 31 hc36 (.C 27 32 <| .S 28 33 1 19 9 <| .C 29 34 <| .S 30 35 0 19 9 <| .nil) [(35, amV r.am), (33, amV q.am), (31, .bool ((((q.op == r.op) && (q.sender.toList == r.sender.toList)) && (q.ref.toList == r.ref.toList)) && (insEq q.ins r.ins))), (4, .bool false)] h35 (Kw.nil hB33) fun q37 h38 => ?_
      clear h35
      refine eG 31 36 (.binOp .eql 43 (.tmp 33) (.tmp 35) 43) 4 (26, true) (.bool (amEq q.am r.am)) (g1 31 hc36) h38 (hr := r_eqlA _ (by kernel_rfl) (by kernel_rfl) (by kernel_rfl) (eq43 q.am r.am _)) fun q39 h40 => ?_
      clear h38
      refine eE 32 37 (.pick (.tmp 31) (.tmp 36) (.const (.bool false))) 4 (.bool (((((q.op == r.op) && (q.sender.toList == r.sender.toList)) && (q.ref.toList == r.ref.toList)) && (insEq q.ins r.ins)) && (amEq q.am r.am))) h40 (hr := r_and (c := (((q.op == r.op) && (q.sender.toList == r.sender.toList)) && (q.ref.toList == r.ref.toList)) && (insEq q.ins r.ins)) (d := (amEq q.am r.am)) (by kernel_rfl) (fun _ => by kernel_rfl)) fun q41 h42 => ?_
      clear h40
      exact ⟨h42.keep _ ⟨rfl, rfl, trivial⟩, hB33⟩
    ·
      refine b1 31 hc36 (.K 27 32 <| .K 28 33 <| .K 29 34 <| .K 30 35 <| .K 31 36 <| .nil) [(36, undef), (31, .bool ((((q.op == r.op) && (q.sender.toList == r.sender.toList)) && (q.ref.toList == r.ref.toList)) && (insEq q.ins r.ins))), (4, .bool false)] h35 (Kw.nil hB33) fun q43 h44 => ?_
      clear h35
      refine eE 32 37 (.pick (.tmp 31) (.tmp 36) (.const (.bool false))) 4 (.bool (((((q.op == r.op) && (q.sender.toList == r.sender.toList)) && (q.ref.toList == r.ref.toList)) && (insEq q.ins r.ins)) && (amEq q.am r.am))) h44 (hr := r_and (c := (((q.op == r.op) && (q.sender.toList == r.sender.toList)) && (q.ref.toList == r.ref.toList)) && (insEq q.ins r.ins)) (d := (amEq q.am r.am)) (by kernel_rfl) (fun e47 => Bool.noConfusion (e47.symm.trans hc36))) fun q45 h46 => ?_
      clear h44
      exact ⟨h46.keep _ ⟨rfl, rfl, trivial⟩, hB33⟩
  rintro q48 w49 ⟨h50, hB51⟩
  refine b0 (.C 33 4 <| .nil) [(4, .bool (((((q.op == r.op) && (q.sender.toList == r.sender.toList)) && (q.ref.toList == r.ref.toList)) && (insEq q.ins r.ins)) && (amEq q.am r.am)))] h50 (Kw.nil hB51) fun q52 h53 => ?_
  clear h50
  refine wpO_end ?_
  refine then_n ?_
  refine c_ret (by kernel_rfl) ?_
  refine ret1 (t := 4) (v := .bool (((((q.op == r.op) && (q.sender.toList == r.sender.toList)) && (q.ref.toList == r.ref.toList)) && (insEq q.ins r.ins)) && (amEq q.am r.am))) h53 (by kernel_rfl) (by kernel_rfl) ?_
  exact ⟨ret_eq (rfl), hB51.bel⟩

set_option maxHeartbeats 4000000 in
set_option maxRecDepth 20000 in
theorem c27 (q r : Rq) (A B : Option Addr) (c d : Nat) (w : World) (hn : q.ins.links.length ≤ 4611686018427387904) (hr : Rd w A (lkc q.ins.links)) (hr2 : Rd w B (lkc r.ins.links)) : Calls Tryd.prog 27 #[rqV q A c, rqV r B d] w fun e w' => e = .returned (.bool (rqSame q r)) ∧ Below w.heap.size w w' := by
  refine enter Tryd.func27 (by kernel_rfl) ?_ (by kernel_rfl)
  intro q0 h0
  replace h0 := h0.conv (l' := [(0, rqV q A c), (1, rqV r B d)]) rfl
  have hB := Bx.refl w
  refine kS ?_
  refine rp 3 ?_
  refine sA 0 2 (fun b => .pointer (some ⟨b, 0, none⟩)) (.cells (rqV q A c).cells 42 (0, 0)) h0 gok_none hB (fun _ _ hq => trivial) (fun b3 w4 hB5 hN q1 h2 => ?_)
  clear h0 hB hN
  refine sA 1 3 (fun b => .pointer (some ⟨b, 0, none⟩)) (.cells (rqV r B d).cells 42 (0, 0)) h2 gok_none hB5 (fun _ _ hq => trivial) (fun b8 w9 hB10 hN q6 h7 => ?_)
  clear h2 hB5 hN
  refine b0 (.C 2 4 <| .nil) [(4, .bool false), (3, .pointer (some ⟨b8, 0, none⟩)), (2, .pointer (some ⟨b3, 0, none⟩))] h7 (Kw.nil hB10) fun q11 h12 => ?_
  clear h7
  refine wpO_end ?_
  refine then_n ?_
  refine kS ?_
  refine rp 34 ?_
  refine b0 (.C 0 5 <| .L 1 6 1 0 <| .C 2 7 <| .L 3 8 0 0 <| .E 4 9 (.bool (q.op == r.op)) <| .C 5 10 <| .J 11 16 10 15 true (q.op == r.op) (q.sender.toList == r.sender.toList) (.C 6 11 <| .L 7 12 1 1 <| .C 8 13 <| .L 9 14 0 1 <| .E 10 15 (.bool (q.sender.toList == r.sender.toList)) <| .nil) <| .C 12 17 <| .J 18 23 17 22 true ((q.op == r.op) && (q.sender.toList == r.sender.toList)) (q.ref.toList == r.ref.toList) (.C 13 18 <| .L 14 19 1 2 <| .C 15 20 <| .L 16 21 0 2 <| .E 17 22 (.bool (q.ref.toList == r.ref.toList)) <| .nil) <| .C 19 24 <| .nil) [(24, .bool (((q.op == r.op) && (q.sender.toList == r.sender.toList)) && (q.ref.toList == r.ref.toList))), (4, .bool false), (3, .pointer (some ⟨b8, 0, none⟩)), (2, .pointer (some ⟨b3, 0, none⟩))] h12 (Kw.nil hB10) fun q13 h14 => ?_
  clear h12
  refine wpO_cut [(20, false), (21, false), (22, false), (23, false), (24, false), (25, false)] [(26, false), (27, false), (28, false), (29, false), (30, false), (31, false), (32, false), (33, false)] (fun qa qw => Fr 38 [(30, .bool ((((q.op == r.op) && (q.sender.toList == r.sender.toList)) && (q.ref.toList == r.ref.toList)) && (sameI q.ins r.ins))), (4, .bool false), (3, .pointer (some ⟨b8, 0, none⟩)), (2, .pointer (some ⟨b3, 0, none⟩))] qa ∧ Bx w [(b8, .cells (rqV r B d).cells 42 (0, 0)), (b3, .cells (rqV q A c).cells 42 (0, 0))] qw) ?_ ?_
  ·
    rcases Bool.eq_false_or_eq_true (((q.op == r.op) && (q.sender.toList == r.sender.toList)) && (q.ref.toList == r.ref.toList)) with hc15 | hc15
    ·
      refine b1 24 hc15 (.C 20 25 <| .S 21 26 1 3 16 <| .C 22 27 <| .S 23 28 0 3 16 <| .nil) [(28, insV r.ins B d), (26, insV q.ins A c), (24, .bool (((q.op == r.op) && (q.sender.toList == r.sender.toList)) && (q.ref.toList == r.ref.toList))), (4, .bool false), (3, .pointer (some ⟨b8, 0, none⟩)), (2, .pointer (some ⟨b3, 0, none⟩))] h14 (Kw.nil hB10) fun q16 h17 => ?_
      clear h14
      refine sC 24 29 (g := (some (19, true))) h17 (g1 24 hc15) (c25 q.ins r.ins A B c d w9 (show q.ins.links.length ≤ 4611686018427387904 by omega) (hr.below hB10.bel) (hr2.below hB10.bel)) ?_
      rintro _ w20 ⟨rfl, hb21⟩
      have hB22 := hB10.call hb21
      refine ⟨_, rfl, trivial, fun q18 h19 => ?_⟩
      clear h17 hB10 hb21
      refine eE 25 30 (.pick (.tmp 24) (.tmp 29) (.const (.bool false))) 4 (.bool ((((q.op == r.op) && (q.sender.toList == r.sender.toList)) && (q.ref.toList == r.ref.toList)) && (sameI q.ins r.ins))) h19 (hr := r_and (c := ((q.op == r.op) && (q.sender.toList == r.sender.toList)) && (q.ref.toList == r.ref.toList)) (d := (sameI q.ins r.ins)) (by kernel_rfl) (fun _ => by kernel_rfl)) fun q23 h24 => ?_
      clear h19
      exact ⟨h24.keep _ ⟨rfl, rfl, rfl, rfl, trivial⟩, hB22⟩
    ·
      refine b1 24 hc15 (.K 20 25 <| .K 21 26 <| .K 22 27 <| .K 23 28 <| .K 24 29 <| .nil) [(29, undef), (24, .bool (((q.op == r.op) && (q.sender.toList == r.sender.toList)) && (q.ref.toList == r.ref.toList))), (4, .bool false), (3, .pointer (some ⟨b8, 0, none⟩)), (2, .pointer (some ⟨b3, 0, none⟩))] h14 (Kw.nil hB10) fun q25 h26 => ?_
      clear h14
      refine eE 25 30 (.pick (.tmp 24) (.tmp 29) (.const (.bool false))) 4 (.bool ((((q.op == r.op) && (q.sender.toList == r.sender.toList)) && (q.ref.toList == r.ref.toList)) && (sameI q.ins r.ins))) h26 (hr := r_and (c := ((q.op == r.op) && (q.sender.toList == r.sender.toList)) && (q.ref.toList == r.ref.toList)) (d := (sameI q.ins r.ins)) (by kernel_rfl) (fun e29 => Bool.noConfusion (e29.symm.trans hc15))) fun q27 h28 => ?_
      clear h26
      exact ⟨h28.keep _ ⟨rfl, rfl, rfl, rfl, trivial⟩, hB10⟩
  rintro q30 w31 ⟨h32, hB33⟩
  refine b0 (.C 26 31 <| .nil) [(31, .bool ((((q.op == r.op) && (q.sender.toList == r.sender.toList)) && (q.ref.toList == r.ref.toList)) && (sameI q.ins r.ins))), (4, .bool false), (3, .pointer (some ⟨b8, 0, none⟩)), (2, .pointer (some ⟨b3, 0, none⟩))] h32 (Kw.nil hB33) fun q34 h35 => ?_
  clear h32
  refine wpO_cut [(27, false), (28, false), (29, false), (30, false), (31, false), (32, false)] [(33, false)] (fun qa qw => Fr 38 [(37, .bool (((((q.op == r.op) && (q.sender.toList == r.sender.toList)) && (q.ref.toList == r.ref.toList)) && (sameI q.ins r.ins)) && (amEq q.am r.am))), (4, .bool false)] qa ∧ Bx w [(b8, .cells (rqV r B d).cells 42 (0, 0)), (b3, .cells (rqV q A c).cells 42 (0, 0))] qw) ?_ ?_
  ·
    rcases Bool.eq_false_or_eq_true ((((q.op == r.op) && (q.sender.toList == r.sender.toList)) && (q.ref.toList == r.ref.toList)) && (sameI q.ins r.ins)) with hc36 | hc36
    ·
      refine b1 31 hc36 (.C 27 32 <| .S 28 33 1 19 9 <| .C 29 34 <| .S 30 35 0 19 9 <| .nil) [(35, amV r.am), (33, amV q.am), (31, .bool ((((q.op == r.op) && (q.sender.toList == r.sender.toList)) && (q.ref.toList == r.ref.toList)) && (sameI q.ins r.ins))), (4, .bool false)] h35 (Kw.nil hB33) fun q37 h38 => ?_
      clear h35
      refine eG 31 36 (.binOp .eql 40 (.tmp 33) (.tmp 35) 40) 4 (26, true) (.bool (amEq q.am r.am)) (g1 31 hc36) h38 (hr := r_eqlA _ (by kernel_rfl) (by kernel_rfl) (by kernel_rfl) (eq40 q.am r.am _)) fun q39 h40 => ?_
      clear h38
      refine eE 32 37 (.pick (.tmp 31) (.tmp 36) (.const (.bool false))) 4 (.bool (((((q.op == r.op) && (q.sender.toList == r.sender.toList)) && (q.ref.toList == r.ref.toList)) && (sameI q.ins r.ins)) && (amEq q.am r.am))) h40 (hr := r_and (c := (((q.op == r.op) && (q.sender.toList == r.sender.toList)) && (q.ref.toList == r.ref.toList)) && (sameI q.ins r.ins)) (d := (amEq q.am r.am)) (by kernel_rfl) (fun _ => by kernel_rfl)) fun q41 h42 => ?_
      clear h40
      exact ⟨h42.keep _ ⟨rfl, rfl, trivial⟩, hB33⟩
    ·
      refine b1 31 hc36 (.K 27 32 <| .K 28 33 <| .K 29 34 <| .K 30 35 <| .K 31 36 <| .nil) [(36, undef), (31, .bool ((((q.op == r.op) && (q.sender.toList == r.sender.toList)) && (q.ref.toList == r.ref.toList)) && (sameI q.ins r.ins))), (4, .bool false)] h35 (Kw.nil hB33) fun q43 h44 => ?_
      clear h35
      refine eE 32 37 (.pick (.tmp 31) (.tmp 36) (.const (.bool false))) 4 (.bool (((((q.op == r.op) && (q.sender.toList == r.sender.toList)) && (q.ref.toList == r.ref.toList)) && (sameI q.ins r.ins)) && (amEq q.am r.am))) h44 (hr := r_and (c := (((q.op == r.op) && (q.sender.toList == r.sender.toList)) && (q.ref.toList == r.ref.toList)) && (sameI q.ins r.ins)) (d := (amEq q.am r.am)) (by kernel_rfl) (fun e47 => Bool.noConfusion (e47.symm.trans hc36))) fun q45 h46 => ?_
      clear h44
      exact ⟨h46.keep _ ⟨rfl, rfl, trivial⟩, hB33⟩
  rintro q48 w49 ⟨h50, hB51⟩
  refine b0 (.C 33 4 <| .nil) [(4, .bool (((((q.op == r.op) && (q.sender.toList == r.sender.toList)) && (q.ref.toList == r.ref.toList)) && (sameI q.ins r.ins)) && (amEq q.am r.am)))] h50 (Kw.nil hB51) fun q52 h53 => ?_
  clear h50
  refine wpO_end ?_
  refine then_n ?_
  refine c_ret (by kernel_rfl) ?_
  refine ret1 (t := 4) (v := .bool (((((q.op == r.op) && (q.sender.toList == r.sender.toList)) && (q.ref.toList == r.ref.toList)) && (sameI q.ins r.ins)) && (amEq q.am r.am))) h53 (by kernel_rfl) (by kernel_rfl) ?_
  exact ⟨ret_eq (rfl), hB51.bel⟩

end Go.Proofs.YtljegdokbifoiaaDoor.Af
