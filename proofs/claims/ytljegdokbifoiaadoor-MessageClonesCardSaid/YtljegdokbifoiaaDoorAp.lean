/- Apply, in both packages. Short lists of links. -/
import Derived.Test.YtljegdokbifoiaaDoorApp
import Derived.Test.YtljegdokbifoiaaDoorCl
namespace Go.Proofs.YtljegdokbifoiaaDoor.Af
open Go.RowKit
set_option maxHeartbeats 4000000 in
set_option maxRecDepth 20000 in
theorem c33 (i : Ins) (m : Am) (A : Option Addr) (c base : Nat) (w : World) (hn : i.links.length ≤ 1000) (ho : World.ownsRow w base 66 2 (.slice A i.links.length c) i.links.length (lkc i.links)) : Calls Tryd.prog 33 #[insV i A c, amV m] w (fun e w' => ∃ (A' : Option Addr) (c' : Nat), e = .returned (.tuple #[insV (appP i m).1 A' c', .int .i64 (appP i m).2]) ∧ World.ownsRow w' w.heap.size 66 2 (.slice A' ((appP i m).1.links.length) c') ((appP i m).1.links.length) (lkc (appP i m).1.links) ∧ Below w.heap.size w w') := by
  refine enter Tryd.func33 (by kernel_rfl) ?_ (by kernel_rfl)
  intro q0 h0
  replace h0 := h0.conv (l' := [(0, insV i A c), (1, amV m)]) rfl
  have hB := Bx.refl w
  refine kS ?_
  refine rp 4 ?_
  refine sA 0 2 (fun b => .pointer (some ⟨b, 0, none⟩)) (.cells (insV i A c).cells 29 (0, 0)) h0 gok_none hB (fun _ _ hq => trivial) (fun b3 w4 hB5 hN q1 h2 => ?_)
  have ho6 := own_below ho hN
  clear h0 hB hN
  refine sA 1 3 (fun b => .pointer (some ⟨b, 0, none⟩)) (.cells (amV m).cells 43 (0, 0)) h2 gok_none hB5 (fun _ _ hq => trivial) (fun b9 w10 hB11 hN q7 h8 => ?_)
  have ho12 := own_below ho6 hN
  clear h2 hB5 hN
  refine sA 2 4 (fun b => .pointer (some ⟨b, 0, none⟩)) (.cells #[.string (⟨#[]⟩ : ByteArray), .int .i64 0, .string (⟨#[]⟩ : ByteArray), .string (⟨#[]⟩ : ByteArray), .int .i64 0, .string (⟨#[]⟩ : ByteArray), .int .i64 0, .int .i64 0, .int .i64 0, .int .i64 0, .int .i64 0, .bool false, .int .i64 0, .bool false, .bool false, .slice none 0 0] 29 (0, 0)) h8 gok_none hB11 (fun _ _ hq => trivial) (fun b15 w16 hB17 hN q13 h14 => ?_)
  have ho18 := own_below ho12 hN
  clear h8 hB11 hN
  refine b0 (.C 3 5 <| .nil) [(5, .int .i64 0), (4, .pointer (some ⟨b15, 0, none⟩)), (3, .pointer (some ⟨b9, 0, none⟩)), (2, .pointer (some ⟨b3, 0, none⟩))] h14 (Kw.nil hB17) fun q19 h20 => ?_
  clear h14
  refine wpO_end ?_
  refine then_n ?_
  refine kS ?_
  refine kS ?_
  refine rp 3 ?_
  refine b0 (.S 0 10 2 0 16 <| .nil) [(10, insV i A c), (5, .int .i64 0), (4, .pointer (some ⟨b15, 0, none⟩)), (3, .pointer (some ⟨b9, 0, none⟩)), (2, .pointer (some ⟨b3, 0, none⟩))] h20 (Kw.nil hB17) fun q21 h22 => ?_
  clear h20
  refine sC 1 11 h22 gok_none (c14 i A c w16 (show i.links.length ≤ 4611686018427387904 by omega) (own_le ho18) (own_rr ho18)) ?_
  rintro _ w25 ⟨rfl, hb26⟩
  have hB27 := hB17.call hb26
  have ho28 := own_below ho18 hb26
  refine ⟨_, rfl, trivial, fun q23 h24 => ?_⟩
  clear h22 hB17 hb26
  refine b0 (.C 2 6 <| .nil) [(6, .int .i64 (chkI i)), (5, .int .i64 0), (4, .pointer (some ⟨b15, 0, none⟩)), (3, .pointer (some ⟨b9, 0, none⟩)), (2, .pointer (some ⟨b3, 0, none⟩))] h24 (Kw.nil hB27) fun q29 h30 => ?_
  clear h24
  refine wpO_end ?_
  refine then_n ?_
  refine kS ?_
  refine rp 2 ?_
  refine b0 (.C 0 12 <| .E 1 13 (.bool (chkI i != (0 : Int))) <| .nil) [(13, .bool (chkI i != (0 : Int))), (6, .int .i64 (chkI i)), (5, .int .i64 0), (4, .pointer (some ⟨b15, 0, none⟩)), (3, .pointer (some ⟨b9, 0, none⟩)), (2, .pointer (some ⟨b3, 0, none⟩))] h30 (Kw.nil hB27) fun q31 h32 => ?_
  clear h30
  refine wpO_end ?_
  refine then_n ?_
  refine kC 13 (chkI i != (0 : Int)) h32 (fun hc33 => ?_) (fun hc33 => ?_)
  ·
    refine kS ?_
    refine rp 4 ?_
    refine b0 (.E 0 14 (.agg #[.string (⟨#[]⟩ : ByteArray), .int .i64 0, .string (⟨#[]⟩ : ByteArray), .string (⟨#[]⟩ : ByteArray), .int .i64 0, .string (⟨#[]⟩ : ByteArray), .int .i64 0, .int .i64 0, .int .i64 0, .int .i64 0, .int .i64 0, .bool false, .int .i64 0, .bool false, .bool false, .slice none 0 0]) <| .C 1 15 <| .nil) [(15, .int .i64 (chkI i)), (14, .agg #[.string (⟨#[]⟩ : ByteArray), .int .i64 0, .string (⟨#[]⟩ : ByteArray), .string (⟨#[]⟩ : ByteArray), .int .i64 0, .string (⟨#[]⟩ : ByteArray), .int .i64 0, .int .i64 0, .int .i64 0, .int .i64 0, .int .i64 0, .bool false, .int .i64 0, .bool false, .bool false, .slice none 0 0]), (5, .int .i64 0), (4, .pointer (some ⟨b15, 0, none⟩)), (3, .pointer (some ⟨b9, 0, none⟩)), (2, .pointer (some ⟨b3, 0, none⟩))] h32 (Kw.nil hB27) fun q34 h35 => ?_
    clear h32
    refine sW 2 0 0 [(b15, .cells #[.string (⟨#[]⟩ : ByteArray), .int .i64 0, .string (⟨#[]⟩ : ByteArray), .string (⟨#[]⟩ : ByteArray), .int .i64 0, .string (⟨#[]⟩ : ByteArray), .int .i64 0, .int .i64 0, .int .i64 0, .int .i64 0, .int .i64 0, .bool false, .int .i64 0, .bool false, .bool false, .slice none 0 0] 29 (0, 0)), (b9, .cells (amV m).cells 43 (0, 0)), (b3, .cells (insV i A c).cells 29 (0, 0))] h35 gok_none hB27 (.inr fun _ _ => trivial) (fun w38 hB39 hT q36 h37 => ?_)
    clear h35 hB27
    have ho40 := own_turned ho28 hT (by kernel_rfl)
    clear hT
    refine b0 (.C 3 5 <| .nil) [(5, .int .i64 (chkI i)), (4, .pointer (some ⟨b15, 0, none⟩)), (3, .pointer (some ⟨b9, 0, none⟩)), (2, .pointer (some ⟨b3, 0, none⟩))] h37 (Kw.nil hB39) fun q41 h42 => ?_
    clear h37
    refine wpO_end ?_
    refine then_n ?_
    refine c_ret (by kernel_rfl) ?_
    refine then_r ?_
    refine retCT (t := 4) (T := 29) (u := 5) (b := b15) (v := .int .i64 (chkI i)) (vs := [.string (⟨#[]⟩ : ByteArray), .int .i64 0, .string (⟨#[]⟩ : ByteArray), .string (⟨#[]⟩ : ByteArray), .int .i64 0, .string (⟨#[]⟩ : ByteArray), .int .i64 0, .int .i64 0, .int .i64 0, .int .i64 0, .int .i64 0, .bool false, .int .i64 0, .bool false, .bool false, .slice none 0 0]) h42 (by kernel_rfl) (by kernel_rfl) (by kernel_rfl) hB39 0 (by kernel_rfl) (by kernel_rfl) (by kernel_rfl) ?_
    have e43 : appP i m = (zIns, chkI i) := cT hc33
    exact ⟨_, _, by rw [e43]; rfl, by rw [e43]; exact own_nil _ _ _ _, hB39.bel⟩
  refine c_skip (by kernel_rfl) ?_
  refine then_n ?_
  refine kS ?_
  refine kS ?_
  refine rp 3 ?_
  refine b0 (.S 0 16 1 0 9 <| .nil) [(16, amV m), (5, .int .i64 0), (4, .pointer (some ⟨b15, 0, none⟩)), (3, .pointer (some ⟨b9, 0, none⟩)), (2, .pointer (some ⟨b3, 0, none⟩))] h32 (Kw.nil hB27) fun q44 h45 => ?_
  clear h32
  refine sC 1 17 h45 gok_none (c31 m w25) ?_
  rintro _ w48 ⟨rfl, hb49⟩
  have hB50 := hB27.call hb49
  have ho51 := own_below ho28 hb49
  refine ⟨_, rfl, trivial, fun q46 h47 => ?_⟩
  clear h45 hB27 hb49
  refine b0 (.C 2 7 <| .nil) [(7, .int .i64 (chkA m)), (5, .int .i64 0), (4, .pointer (some ⟨b15, 0, none⟩)), (3, .pointer (some ⟨b9, 0, none⟩)), (2, .pointer (some ⟨b3, 0, none⟩))] h47 (Kw.nil hB50) fun q52 h53 => ?_
  clear h47
  refine wpO_end ?_
  refine then_n ?_
  refine kS ?_
  refine rp 2 ?_
  refine b0 (.C 0 18 <| .E 1 19 (.bool (chkA m != (0 : Int))) <| .nil) [(19, .bool (chkA m != (0 : Int))), (7, .int .i64 (chkA m)), (5, .int .i64 0), (4, .pointer (some ⟨b15, 0, none⟩)), (3, .pointer (some ⟨b9, 0, none⟩)), (2, .pointer (some ⟨b3, 0, none⟩))] h53 (Kw.nil hB50) fun q54 h55 => ?_
  clear h53
  refine wpO_end ?_
  refine then_n ?_
  refine kC 19 (chkA m != (0 : Int)) h55 (fun hc56 => ?_) (fun hc56 => ?_)
  ·
    refine kS ?_
    refine rp 4 ?_
    refine b0 (.E 0 20 (.agg #[.string (⟨#[]⟩ : ByteArray), .int .i64 0, .string (⟨#[]⟩ : ByteArray), .string (⟨#[]⟩ : ByteArray), .int .i64 0, .string (⟨#[]⟩ : ByteArray), .int .i64 0, .int .i64 0, .int .i64 0, .int .i64 0, .int .i64 0, .bool false, .int .i64 0, .bool false, .bool false, .slice none 0 0]) <| .C 1 21 <| .nil) [(21, .int .i64 (chkA m)), (20, .agg #[.string (⟨#[]⟩ : ByteArray), .int .i64 0, .string (⟨#[]⟩ : ByteArray), .string (⟨#[]⟩ : ByteArray), .int .i64 0, .string (⟨#[]⟩ : ByteArray), .int .i64 0, .int .i64 0, .int .i64 0, .int .i64 0, .int .i64 0, .bool false, .int .i64 0, .bool false, .bool false, .slice none 0 0]), (5, .int .i64 0), (4, .pointer (some ⟨b15, 0, none⟩)), (3, .pointer (some ⟨b9, 0, none⟩)), (2, .pointer (some ⟨b3, 0, none⟩))] h55 (Kw.nil hB50) fun q57 h58 => ?_
    clear h55
    refine sW 2 0 0 [(b15, .cells #[.string (⟨#[]⟩ : ByteArray), .int .i64 0, .string (⟨#[]⟩ : ByteArray), .string (⟨#[]⟩ : ByteArray), .int .i64 0, .string (⟨#[]⟩ : ByteArray), .int .i64 0, .int .i64 0, .int .i64 0, .int .i64 0, .int .i64 0, .bool false, .int .i64 0, .bool false, .bool false, .slice none 0 0] 29 (0, 0)), (b9, .cells (amV m).cells 43 (0, 0)), (b3, .cells (insV i A c).cells 29 (0, 0))] h58 gok_none hB50 (.inr fun _ _ => trivial) (fun w61 hB62 hT q59 h60 => ?_)
    clear h58 hB50
    have ho63 := own_turned ho51 hT (by kernel_rfl)
    clear hT
    refine b0 (.C 3 5 <| .nil) [(5, .int .i64 (chkA m)), (4, .pointer (some ⟨b15, 0, none⟩)), (3, .pointer (some ⟨b9, 0, none⟩)), (2, .pointer (some ⟨b3, 0, none⟩))] h60 (Kw.nil hB62) fun q64 h65 => ?_
    clear h60
    refine wpO_end ?_
    refine then_n ?_
    refine c_ret (by kernel_rfl) ?_
    refine then_r ?_
    refine retCT (t := 4) (T := 29) (u := 5) (b := b15) (v := .int .i64 (chkA m)) (vs := [.string (⟨#[]⟩ : ByteArray), .int .i64 0, .string (⟨#[]⟩ : ByteArray), .string (⟨#[]⟩ : ByteArray), .int .i64 0, .string (⟨#[]⟩ : ByteArray), .int .i64 0, .int .i64 0, .int .i64 0, .int .i64 0, .int .i64 0, .bool false, .int .i64 0, .bool false, .bool false, .slice none 0 0]) h65 (by kernel_rfl) (by kernel_rfl) (by kernel_rfl) hB62 0 (by kernel_rfl) (by kernel_rfl) (by kernel_rfl) ?_
    have e66 : appP i m = (zIns, chkA m) := (cF hc33).trans (cT hc56)
    exact ⟨_, _, by rw [e66]; rfl, by rw [e66]; exact own_nil _ _ _ _, hB62.bel⟩
  refine c_skip (by kernel_rfl) ?_
  refine then_n ?_
  refine kS ?_
  refine kS ?_
  refine rp 21 ?_
  refine b0 (.C 0 22 <| .L 1 23 1 0 <| .C 2 24 <| .J 6 28 24 27 true m.hasAmt (i.kind != (0 : Int)) (.C 3 25 <| .L 4 26 2 1 <| .E 5 27 (.bool (i.kind != (0 : Int))) <| .nil) <| .C 7 29 <| .J 11 33 29 32 true (m.hasAmt && (i.kind != (0 : Int))) (i.kind != (1 : Int)) (.C 8 30 <| .L 9 31 2 1 <| .E 10 32 (.bool (i.kind != (1 : Int))) <| .nil) <| .C 12 34 <| .nil) [(34, .bool ((m.hasAmt && (i.kind != (0 : Int))) && (i.kind != (1 : Int)))), (5, .int .i64 0), (4, .pointer (some ⟨b15, 0, none⟩)), (3, .pointer (some ⟨b9, 0, none⟩)), (2, .pointer (some ⟨b3, 0, none⟩))] h55 (Kw.nil hB50) fun q67 h68 => ?_
  clear h55
  refine wpO_cut [(13, false), (14, false), (15, false), (16, false), (17, false), (18, false), (19, false), (20, false)] [] (fun qa qw => Fr 76 [(42, .bool (((m.hasAmt && (i.kind != (0 : Int))) && (i.kind != (1 : Int))) || (m.hasPart && (!(isSec i))))), (5, .int .i64 0), (4, .pointer (some ⟨b15, 0, none⟩)), (3, .pointer (some ⟨b9, 0, none⟩)), (2, .pointer (some ⟨b3, 0, none⟩))] qa ∧ Bx w [(b15, .cells #[.string (⟨#[]⟩ : ByteArray), .int .i64 0, .string (⟨#[]⟩ : ByteArray), .string (⟨#[]⟩ : ByteArray), .int .i64 0, .string (⟨#[]⟩ : ByteArray), .int .i64 0, .int .i64 0, .int .i64 0, .int .i64 0, .int .i64 0, .bool false, .int .i64 0, .bool false, .bool false, .slice none 0 0] 29 (0, 0)), (b9, .cells (amV m).cells 43 (0, 0)), (b3, .cells (insV i A c).cells 29 (0, 0))] qw ∧ World.ownsRow qw base 66 2 (.slice A i.links.length c) i.links.length (lkc i.links)) ?_ ?_
  ·
    rcases Bool.eq_false_or_eq_true ((m.hasAmt && (i.kind != (0 : Int))) && (i.kind != (1 : Int))) with hc69 | hc69
    ·
      refine b1 34 hc69 (.K 13 35 <| .K 14 36 <| .K 15 37 <| .K 16 38 <| .K 17 39 <| .K 18 40 <| .K 19 41 <| .nil) [(41, undef), (34, .bool ((m.hasAmt && (i.kind != (0 : Int))) && (i.kind != (1 : Int)))), (5, .int .i64 0), (4, .pointer (some ⟨b15, 0, none⟩)), (3, .pointer (some ⟨b9, 0, none⟩)), (2, .pointer (some ⟨b3, 0, none⟩))] h68 (Kw.nil hB50) fun q70 h71 => ?_
      clear h68
      refine eE 20 42 (.pick (.tmp 34) (.const (.bool true)) (.tmp 41)) 4 (.bool (((m.hasAmt && (i.kind != (0 : Int))) && (i.kind != (1 : Int))) || (m.hasPart && (!(isSec i))))) h71 (hr := r_or (c := (m.hasAmt && (i.kind != (0 : Int))) && (i.kind != (1 : Int))) (d := (m.hasPart && (!(isSec i)))) (by kernel_rfl) (fun e74 => Bool.noConfusion (e74.symm.trans hc69))) fun q72 h73 => ?_
      clear h71
      exact ⟨h73.keep _ ⟨rfl, rfl, rfl, rfl, rfl, trivial⟩, hB50, ho51⟩
    ·
      refine b1 34 hc69 (.C 13 35 <| .L 14 36 1 3 <| .C 15 37 <| .nil) [(37, .bool m.hasPart), (34, .bool ((m.hasAmt && (i.kind != (0 : Int))) && (i.kind != (1 : Int)))), (5, .int .i64 0), (4, .pointer (some ⟨b15, 0, none⟩)), (3, .pointer (some ⟨b9, 0, none⟩)), (2, .pointer (some ⟨b3, 0, none⟩))] h68 (Kw.nil hB50) fun q75 h76 => ?_
      clear h68
      refine wpO_cut [(16, false), (17, false), (18, false), (19, false)] [(20, false)] (fun qa qw => Fr 76 [(41, .bool (m.hasPart && (!(isSec i)))), (34, .bool ((m.hasAmt && (i.kind != (0 : Int))) && (i.kind != (1 : Int)))), (5, .int .i64 0), (4, .pointer (some ⟨b15, 0, none⟩)), (3, .pointer (some ⟨b9, 0, none⟩)), (2, .pointer (some ⟨b3, 0, none⟩))] qa ∧ Bx w [(b15, .cells #[.string (⟨#[]⟩ : ByteArray), .int .i64 0, .string (⟨#[]⟩ : ByteArray), .string (⟨#[]⟩ : ByteArray), .int .i64 0, .string (⟨#[]⟩ : ByteArray), .int .i64 0, .int .i64 0, .int .i64 0, .int .i64 0, .int .i64 0, .bool false, .int .i64 0, .bool false, .bool false, .slice none 0 0] 29 (0, 0)), (b9, .cells (amV m).cells 43 (0, 0)), (b3, .cells (insV i A c).cells 29 (0, 0))] qw ∧ World.ownsRow qw base 66 2 (.slice A i.links.length c) i.links.length (lkc i.links)) ?_ ?_
      ·
        rcases Bool.eq_false_or_eq_true m.hasPart with hc77 | hc77
        ·
          refine b1 37 hc77 (.S 16 38 2 0 16 <| .nil) [(38, insV i A c), (37, .bool m.hasPart), (34, .bool ((m.hasAmt && (i.kind != (0 : Int))) && (i.kind != (1 : Int)))), (5, .int .i64 0), (4, .pointer (some ⟨b15, 0, none⟩)), (3, .pointer (some ⟨b9, 0, none⟩)), (2, .pointer (some ⟨b3, 0, none⟩))] h76 (Kw.nil hB50) fun q78 h79 => ?_
          clear h76
          refine sC 17 39 (g := (some (15, true))) h79 (g1 37 hc77) (c43 i A c w48) ?_
          rintro _ w82 ⟨rfl, hb83⟩
          have hB84 := hB50.call hb83
          have ho85 := own_below ho51 hb83
          refine ⟨_, rfl, trivial, fun q80 h81 => ?_⟩
          clear h79 hB50 hb83
          refine b1 37 hc77 (.E 18 40 (.bool (!(isSec i))) <| .nil) [(40, .bool (!(isSec i))), (37, .bool m.hasPart), (34, .bool ((m.hasAmt && (i.kind != (0 : Int))) && (i.kind != (1 : Int)))), (5, .int .i64 0), (4, .pointer (some ⟨b15, 0, none⟩)), (3, .pointer (some ⟨b9, 0, none⟩)), (2, .pointer (some ⟨b3, 0, none⟩))] h81 (Kw.nil hB84) fun q86 h87 => ?_
          clear h81
          refine eG 19 41 (.pick (.tmp 37) (.tmp 40) (.const (.bool false))) 4 (12, false) (.bool (m.hasPart && (!(isSec i)))) (g2 34 hc69) h87 (hr := r_and (c := m.hasPart) (d := (!(isSec i))) (by kernel_rfl) (fun _ => by kernel_rfl)) fun q88 h89 => ?_
          clear h87
          exact ⟨h89.keep _ ⟨rfl, rfl, rfl, rfl, rfl, rfl, trivial⟩, hB84, ho85⟩
        ·
          refine b1 37 hc77 (.K 16 38 <| .K 17 39 <| .K 18 40 <| .nil) [(40, undef), (37, .bool m.hasPart), (34, .bool ((m.hasAmt && (i.kind != (0 : Int))) && (i.kind != (1 : Int)))), (5, .int .i64 0), (4, .pointer (some ⟨b15, 0, none⟩)), (3, .pointer (some ⟨b9, 0, none⟩)), (2, .pointer (some ⟨b3, 0, none⟩))] h76 (Kw.nil hB50) fun q90 h91 => ?_
          clear h76
          refine eG 19 41 (.pick (.tmp 37) (.tmp 40) (.const (.bool false))) 4 (12, false) (.bool (m.hasPart && (!(isSec i)))) (g2 34 hc69) h91 (hr := r_and (c := m.hasPart) (d := (!(isSec i))) (by kernel_rfl) (fun e94 => Bool.noConfusion (e94.symm.trans hc77))) fun q92 h93 => ?_
          clear h91
          exact ⟨h93.keep _ ⟨rfl, rfl, rfl, rfl, rfl, rfl, trivial⟩, hB50, ho51⟩
      rintro q95 w96 ⟨h97, hB98, ho99⟩
      refine eE 20 42 (.pick (.tmp 34) (.const (.bool true)) (.tmp 41)) 4 (.bool (((m.hasAmt && (i.kind != (0 : Int))) && (i.kind != (1 : Int))) || (m.hasPart && (!(isSec i))))) h97 (hr := r_or (c := (m.hasAmt && (i.kind != (0 : Int))) && (i.kind != (1 : Int))) (d := (m.hasPart && (!(isSec i)))) (by kernel_rfl) (fun _ => by kernel_rfl)) fun q100 h101 => ?_
      clear h97
      exact ⟨h101.keep _ ⟨rfl, rfl, rfl, rfl, rfl, trivial⟩, hB98, ho99⟩
  rintro q102 w103 ⟨h104, hB105, ho106⟩
  refine wpO_end ?_
  refine then_n ?_
  refine kC 42 (((m.hasAmt && (i.kind != (0 : Int))) && (i.kind != (1 : Int))) || (m.hasPart && (!(isSec i)))) h104 (fun hc107 => ?_) (fun hc107 => ?_)
  ·
    refine kS ?_
    refine rp 3 ?_
    refine b0 (.E 0 43 (.agg #[.string (⟨#[]⟩ : ByteArray), .int .i64 0, .string (⟨#[]⟩ : ByteArray), .string (⟨#[]⟩ : ByteArray), .int .i64 0, .string (⟨#[]⟩ : ByteArray), .int .i64 0, .int .i64 0, .int .i64 0, .int .i64 0, .int .i64 0, .bool false, .int .i64 0, .bool false, .bool false, .slice none 0 0]) <| .nil) [(43, .agg #[.string (⟨#[]⟩ : ByteArray), .int .i64 0, .string (⟨#[]⟩ : ByteArray), .string (⟨#[]⟩ : ByteArray), .int .i64 0, .string (⟨#[]⟩ : ByteArray), .int .i64 0, .int .i64 0, .int .i64 0, .int .i64 0, .int .i64 0, .bool false, .int .i64 0, .bool false, .bool false, .slice none 0 0]), (5, .int .i64 0), (4, .pointer (some ⟨b15, 0, none⟩)), (3, .pointer (some ⟨b9, 0, none⟩)), (2, .pointer (some ⟨b3, 0, none⟩))] h104 (Kw.nil hB105) fun q108 h109 => ?_
    clear h104
    refine sW 1 0 0 [(b15, .cells #[.string (⟨#[]⟩ : ByteArray), .int .i64 0, .string (⟨#[]⟩ : ByteArray), .string (⟨#[]⟩ : ByteArray), .int .i64 0, .string (⟨#[]⟩ : ByteArray), .int .i64 0, .int .i64 0, .int .i64 0, .int .i64 0, .int .i64 0, .bool false, .int .i64 0, .bool false, .bool false, .slice none 0 0] 29 (0, 0)), (b9, .cells (amV m).cells 43 (0, 0)), (b3, .cells (insV i A c).cells 29 (0, 0))] h109 gok_none hB105 (.inr fun _ _ => trivial) (fun w112 hB113 hT q110 h111 => ?_)
    clear h109 hB105
    have ho114 := own_turned ho106 hT (by kernel_rfl)
    clear hT
    refine b0 (.C 2 5 <| .nil) [(5, .int .i64 3), (4, .pointer (some ⟨b15, 0, none⟩)), (3, .pointer (some ⟨b9, 0, none⟩)), (2, .pointer (some ⟨b3, 0, none⟩))] h111 (Kw.nil hB113) fun q115 h116 => ?_
    clear h111
    refine wpO_end ?_
    refine then_n ?_
    refine c_ret (by kernel_rfl) ?_
    refine then_r ?_
    refine retCT (t := 4) (T := 29) (u := 5) (b := b15) (v := .int .i64 3) (vs := [.string (⟨#[]⟩ : ByteArray), .int .i64 0, .string (⟨#[]⟩ : ByteArray), .string (⟨#[]⟩ : ByteArray), .int .i64 0, .string (⟨#[]⟩ : ByteArray), .int .i64 0, .int .i64 0, .int .i64 0, .int .i64 0, .int .i64 0, .bool false, .int .i64 0, .bool false, .bool false, .slice none 0 0]) h116 (by kernel_rfl) (by kernel_rfl) (by kernel_rfl) hB113 0 (by kernel_rfl) (by kernel_rfl) (by kernel_rfl) ?_
    have e117 : appP i m = (zIns, 3) := (cF hc33).trans ((cF hc56).trans (cT hc107))
    exact ⟨_, _, by rw [e117]; rfl, by rw [e117]; exact own_nil _ _ _ _, hB113.bel⟩
  refine c_skip (by kernel_rfl) ?_
  refine then_n ?_
  refine kS ?_
  refine rp 4 ?_
  refine b0 (.S 0 44 2 0 16 <| .nil) [(44, insV i A c), (5, .int .i64 0), (4, .pointer (some ⟨b15, 0, none⟩)), (3, .pointer (some ⟨b9, 0, none⟩))] h104 (Kw.nil hB105) fun q118 h119 => ?_
  clear h104
  refine sC 1 45 h119 gok_none (c38 i A c _ w103 (by omega) ho106) ?_
  rintro _ w124 ⟨A122, cp123, rfl, ho128, hb125⟩
  have ho127 := own_base ho128 hB105.bel.size
  have hB126 := hB105.call hb125
  have ho129 := own_below ho106 hb125
  refine ⟨_, rfl, trivial, fun q120 h121 => ?_⟩
  clear h119 hB105 hb125
  refine sA 2 8 (fun b => .pointer (some ⟨b, 0, none⟩)) (.cells #[.string (⟨#[]⟩ : ByteArray), .int .i64 0, .string (⟨#[]⟩ : ByteArray), .string (⟨#[]⟩ : ByteArray), .int .i64 0, .string (⟨#[]⟩ : ByteArray), .int .i64 0, .int .i64 0, .int .i64 0, .int .i64 0, .int .i64 0, .bool false, .int .i64 0, .bool false, .bool false, .slice none 0 0] 29 (0, 0)) h121 gok_none hB126 (fun _ _ hq => trivial) (fun b132 w133 hB134 hN q130 h131 => ?_)
  have ho135 := own_below ho129 hN
  have ho136 := own_below ho127 hN
  clear h121 hB126 hN
  refine sW 3 0 0 [(b132, .cells (insV i A122 cp123).cells 29 (0, 0)), (b15, .cells #[.string (⟨#[]⟩ : ByteArray), .int .i64 0, .string (⟨#[]⟩ : ByteArray), .string (⟨#[]⟩ : ByteArray), .int .i64 0, .string (⟨#[]⟩ : ByteArray), .int .i64 0, .int .i64 0, .int .i64 0, .int .i64 0, .int .i64 0, .bool false, .int .i64 0, .bool false, .bool false, .slice none 0 0] 29 (0, 0)), (b9, .cells (amV m).cells 43 (0, 0)), (b3, .cells (insV i A c).cells 29 (0, 0))] h131 gok_none hB134 (.inr fun _ _ => trivial) (fun w139 hB140 hT q137 h138 => ?_)
  clear h131 hB134
  have ho141 := own_turned ho135 hT (by kernel_rfl)
  have ho142 := own_turned ho136 hT (by kernel_rfl)
  clear hT
  refine wpO_end ?_
  have h143 := h138.keep [(8, .pointer (some ⟨b132, 0, none⟩)), (5, .int .i64 0), (4, .pointer (some ⟨b15, 0, none⟩)), (3, .pointer (some ⟨b9, 0, none⟩))] ⟨rfl, rfl, rfl, rfl, trivial⟩
  clear h138
  refine then_n ?_
  refine kS ?_
  refine kS ?_
  refine rp 2 ?_
  refine b0 (.C 0 46 <| .L 1 47 2 0 <| .nil) [(47, .bool m.hasAmt), (8, .pointer (some ⟨b132, 0, none⟩)), (5, .int .i64 0), (4, .pointer (some ⟨b15, 0, none⟩)), (3, .pointer (some ⟨b9, 0, none⟩))] h143 (Kw.nil hB140) fun q144 h145 => ?_
  clear h143
  refine wpO_end ?_
  refine then_n ?_
  refine c_cut (fun qa qw => Fr 76 [(8, .pointer (some ⟨b132, 0, none⟩)), (5, .int .i64 0), (4, .pointer (some ⟨b15, 0, none⟩)), (3, .pointer (some ⟨b9, 0, none⟩))] qa ∧ Bx w [(b132, .cells #[.string i.ref, .int .i64 i.kind, .string i.sender, .string i.cpty, .int .i64 i.side, .string i.asset, .int .i64 i.qty, .int .i64 (bif m.hasAmt then m.amt else i.amt), .int .i64 i.tday, .int .i64 i.sday, .int .i64 i.prio, .bool i.part, .int .i64 i.minlot, .bool i.hold, .bool i.resv, .slice A122 i.links.length cp123] 29 (0, 0)), (b15, .cells #[.string (⟨#[]⟩ : ByteArray), .int .i64 0, .string (⟨#[]⟩ : ByteArray), .string (⟨#[]⟩ : ByteArray), .int .i64 0, .string (⟨#[]⟩ : ByteArray), .int .i64 0, .int .i64 0, .int .i64 0, .int .i64 0, .int .i64 0, .bool false, .int .i64 0, .bool false, .bool false, .slice none 0 0] 29 (0, 0)), (b9, .cells (amV m).cells 43 (0, 0)), (b3, .cells (insV i A c).cells 29 (0, 0))] qw ∧ World.ownsRow qw base 66 2 (.slice A i.links.length c) i.links.length (lkc i.links) ∧ World.ownsRow qw w.heap.size 66 2 (.slice A122 i.links.length cp123) i.links.length (lkc i.links)) ?_ ?_
  ·
    refine kC 47 m.hasAmt h145 (fun hc146 => ?_) (fun hc146 => ?_)
    ·
      refine rp 4 ?_
      refine b0 (.C 0 48 <| .L 1 49 2 4 <| .C 2 50 <| .nil) [(50, .pointer (some ⟨b132, 7, none⟩)), (49, .int .i64 m.amt), (8, .pointer (some ⟨b132, 0, none⟩)), (5, .int .i64 0), (4, .pointer (some ⟨b15, 0, none⟩)), (3, .pointer (some ⟨b9, 0, none⟩))] h145 (Kw.nil hB140) fun q147 h148 => ?_
      clear h145
      refine sW 3 0 7 [(b132, .cells #[.string i.ref, .int .i64 i.kind, .string i.sender, .string i.cpty, .int .i64 i.side, .string i.asset, .int .i64 i.qty, .int .i64 m.amt, .int .i64 i.tday, .int .i64 i.sday, .int .i64 i.prio, .bool i.part, .int .i64 i.minlot, .bool i.hold, .bool i.resv, .slice A122 i.links.length cp123] 29 (0, 0)), (b15, .cells #[.string (⟨#[]⟩ : ByteArray), .int .i64 0, .string (⟨#[]⟩ : ByteArray), .string (⟨#[]⟩ : ByteArray), .int .i64 0, .string (⟨#[]⟩ : ByteArray), .int .i64 0, .int .i64 0, .int .i64 0, .int .i64 0, .int .i64 0, .bool false, .int .i64 0, .bool false, .bool false, .slice none 0 0] 29 (0, 0)), (b9, .cells (amV m).cells 43 (0, 0)), (b3, .cells (insV i A c).cells 29 (0, 0))] h148 gok_none hB140 (.inr fun _ _ => trivial) (fun w151 hB152 hT q149 h150 => ?_)
      clear h148 hB140
      have ho153 := own_turned ho141 hT (by kernel_rfl)
      have ho154 := own_turned ho142 hT (by kernel_rfl)
      clear hT
      refine wpO_end ?_
      have h155 := h150.keep [(8, .pointer (some ⟨b132, 0, none⟩)), (5, .int .i64 0), (4, .pointer (some ⟨b15, 0, none⟩)), (3, .pointer (some ⟨b9, 0, none⟩))] ⟨rfl, rfl, rfl, rfl, trivial⟩
      clear h150
      exact cut_n ⟨h155.keep _ ⟨rfl, rfl, rfl, rfl, trivial⟩, by rw [cT hc146]; exact hB152, ho153, ho154⟩
    ·
      refine c_skip (by kernel_rfl) ?_
      exact cut_n ⟨h145.keep _ ⟨rfl, rfl, rfl, rfl, trivial⟩, by rw [cF hc146]; exact hB140, ho141, ho142⟩
  rintro q156 w157 ⟨h158, hB159, ho160, ho161⟩
  refine then_n ?_
  refine kS ?_
  refine kS ?_
  refine rp 2 ?_
  refine b0 (.C 0 51 <| .L 1 52 2 1 <| .nil) [(52, .bool m.hasDay), (8, .pointer (some ⟨b132, 0, none⟩)), (5, .int .i64 0), (4, .pointer (some ⟨b15, 0, none⟩)), (3, .pointer (some ⟨b9, 0, none⟩))] h158 (Kw.nil hB159) fun q162 h163 => ?_
  clear h158
  refine wpO_end ?_
  refine then_n ?_
  refine c_cut (fun qa qw => Fr 76 [(8, .pointer (some ⟨b132, 0, none⟩)), (5, .int .i64 0), (4, .pointer (some ⟨b15, 0, none⟩)), (3, .pointer (some ⟨b9, 0, none⟩))] qa ∧ Bx w [(b132, .cells #[.string i.ref, .int .i64 i.kind, .string i.sender, .string i.cpty, .int .i64 i.side, .string i.asset, .int .i64 i.qty, .int .i64 (bif m.hasAmt then m.amt else i.amt), .int .i64 i.tday, .int .i64 (bif m.hasDay then m.sday else i.sday), .int .i64 i.prio, .bool i.part, .int .i64 i.minlot, .bool i.hold, .bool i.resv, .slice A122 i.links.length cp123] 29 (0, 0)), (b15, .cells #[.string (⟨#[]⟩ : ByteArray), .int .i64 0, .string (⟨#[]⟩ : ByteArray), .string (⟨#[]⟩ : ByteArray), .int .i64 0, .string (⟨#[]⟩ : ByteArray), .int .i64 0, .int .i64 0, .int .i64 0, .int .i64 0, .int .i64 0, .bool false, .int .i64 0, .bool false, .bool false, .slice none 0 0] 29 (0, 0)), (b9, .cells (amV m).cells 43 (0, 0)), (b3, .cells (insV i A c).cells 29 (0, 0))] qw ∧ World.ownsRow qw base 66 2 (.slice A i.links.length c) i.links.length (lkc i.links) ∧ World.ownsRow qw w.heap.size 66 2 (.slice A122 i.links.length cp123) i.links.length (lkc i.links)) ?_ ?_
  ·
    refine kC 52 m.hasDay h163 (fun hc164 => ?_) (fun hc164 => ?_)
    ·
      refine rp 4 ?_
      refine b0 (.C 0 53 <| .L 1 54 2 5 <| .C 2 55 <| .nil) [(55, .pointer (some ⟨b132, 9, none⟩)), (54, .int .i64 m.sday), (8, .pointer (some ⟨b132, 0, none⟩)), (5, .int .i64 0), (4, .pointer (some ⟨b15, 0, none⟩)), (3, .pointer (some ⟨b9, 0, none⟩))] h163 (Kw.nil hB159) fun q165 h166 => ?_
      clear h163
      refine sW 3 0 9 [(b132, .cells #[.string i.ref, .int .i64 i.kind, .string i.sender, .string i.cpty, .int .i64 i.side, .string i.asset, .int .i64 i.qty, .int .i64 (bif m.hasAmt then m.amt else i.amt), .int .i64 i.tday, .int .i64 m.sday, .int .i64 i.prio, .bool i.part, .int .i64 i.minlot, .bool i.hold, .bool i.resv, .slice A122 i.links.length cp123] 29 (0, 0)), (b15, .cells #[.string (⟨#[]⟩ : ByteArray), .int .i64 0, .string (⟨#[]⟩ : ByteArray), .string (⟨#[]⟩ : ByteArray), .int .i64 0, .string (⟨#[]⟩ : ByteArray), .int .i64 0, .int .i64 0, .int .i64 0, .int .i64 0, .int .i64 0, .bool false, .int .i64 0, .bool false, .bool false, .slice none 0 0] 29 (0, 0)), (b9, .cells (amV m).cells 43 (0, 0)), (b3, .cells (insV i A c).cells 29 (0, 0))] h166 gok_none hB159 (.inr fun _ _ => trivial) (fun w169 hB170 hT q167 h168 => ?_)
      clear h166 hB159
      have ho171 := own_turned ho160 hT (by kernel_rfl)
      have ho172 := own_turned ho161 hT (by kernel_rfl)
      clear hT
      refine wpO_end ?_
      have h173 := h168.keep [(8, .pointer (some ⟨b132, 0, none⟩)), (5, .int .i64 0), (4, .pointer (some ⟨b15, 0, none⟩)), (3, .pointer (some ⟨b9, 0, none⟩))] ⟨rfl, rfl, rfl, rfl, trivial⟩
      clear h168
      exact cut_n ⟨h173.keep _ ⟨rfl, rfl, rfl, rfl, trivial⟩, by rw [cT hc164]; exact hB170, ho171, ho172⟩
    ·
      refine c_skip (by kernel_rfl) ?_
      exact cut_n ⟨h163.keep _ ⟨rfl, rfl, rfl, rfl, trivial⟩, by rw [cF hc164]; exact hB159, ho160, ho161⟩
  rintro q174 w175 ⟨h176, hB177, ho178, ho179⟩
  refine then_n ?_
  refine kS ?_
  refine kS ?_
  refine rp 2 ?_
  refine b0 (.C 0 56 <| .L 1 57 2 2 <| .nil) [(57, .bool m.hasPrio), (8, .pointer (some ⟨b132, 0, none⟩)), (5, .int .i64 0), (4, .pointer (some ⟨b15, 0, none⟩)), (3, .pointer (some ⟨b9, 0, none⟩))] h176 (Kw.nil hB177) fun q180 h181 => ?_
  clear h176
  refine wpO_end ?_
  refine then_n ?_
  refine c_cut (fun qa qw => Fr 76 [(8, .pointer (some ⟨b132, 0, none⟩)), (5, .int .i64 0), (4, .pointer (some ⟨b15, 0, none⟩)), (3, .pointer (some ⟨b9, 0, none⟩))] qa ∧ Bx w [(b132, .cells #[.string i.ref, .int .i64 i.kind, .string i.sender, .string i.cpty, .int .i64 i.side, .string i.asset, .int .i64 i.qty, .int .i64 (bif m.hasAmt then m.amt else i.amt), .int .i64 i.tday, .int .i64 (bif m.hasDay then m.sday else i.sday), .int .i64 (bif m.hasPrio then m.prio else i.prio), .bool i.part, .int .i64 i.minlot, .bool i.hold, .bool i.resv, .slice A122 i.links.length cp123] 29 (0, 0)), (b15, .cells #[.string (⟨#[]⟩ : ByteArray), .int .i64 0, .string (⟨#[]⟩ : ByteArray), .string (⟨#[]⟩ : ByteArray), .int .i64 0, .string (⟨#[]⟩ : ByteArray), .int .i64 0, .int .i64 0, .int .i64 0, .int .i64 0, .int .i64 0, .bool false, .int .i64 0, .bool false, .bool false, .slice none 0 0] 29 (0, 0)), (b9, .cells (amV m).cells 43 (0, 0)), (b3, .cells (insV i A c).cells 29 (0, 0))] qw ∧ World.ownsRow qw base 66 2 (.slice A i.links.length c) i.links.length (lkc i.links) ∧ World.ownsRow qw w.heap.size 66 2 (.slice A122 i.links.length cp123) i.links.length (lkc i.links)) ?_ ?_
  ·
    refine kC 57 m.hasPrio h181 (fun hc182 => ?_) (fun hc182 => ?_)
    ·
      refine rp 4 ?_
      refine b0 (.C 0 58 <| .L 1 59 2 6 <| .C 2 60 <| .nil) [(60, .pointer (some ⟨b132, 10, none⟩)), (59, .int .i64 m.prio), (8, .pointer (some ⟨b132, 0, none⟩)), (5, .int .i64 0), (4, .pointer (some ⟨b15, 0, none⟩)), (3, .pointer (some ⟨b9, 0, none⟩))] h181 (Kw.nil hB177) fun q183 h184 => ?_
      clear h181
      refine sW 3 0 10 [(b132, .cells #[.string i.ref, .int .i64 i.kind, .string i.sender, .string i.cpty, .int .i64 i.side, .string i.asset, .int .i64 i.qty, .int .i64 (bif m.hasAmt then m.amt else i.amt), .int .i64 i.tday, .int .i64 (bif m.hasDay then m.sday else i.sday), .int .i64 m.prio, .bool i.part, .int .i64 i.minlot, .bool i.hold, .bool i.resv, .slice A122 i.links.length cp123] 29 (0, 0)), (b15, .cells #[.string (⟨#[]⟩ : ByteArray), .int .i64 0, .string (⟨#[]⟩ : ByteArray), .string (⟨#[]⟩ : ByteArray), .int .i64 0, .string (⟨#[]⟩ : ByteArray), .int .i64 0, .int .i64 0, .int .i64 0, .int .i64 0, .int .i64 0, .bool false, .int .i64 0, .bool false, .bool false, .slice none 0 0] 29 (0, 0)), (b9, .cells (amV m).cells 43 (0, 0)), (b3, .cells (insV i A c).cells 29 (0, 0))] h184 gok_none hB177 (.inr fun _ _ => trivial) (fun w187 hB188 hT q185 h186 => ?_)
      clear h184 hB177
      have ho189 := own_turned ho178 hT (by kernel_rfl)
      have ho190 := own_turned ho179 hT (by kernel_rfl)
      clear hT
      refine wpO_end ?_
      have h191 := h186.keep [(8, .pointer (some ⟨b132, 0, none⟩)), (5, .int .i64 0), (4, .pointer (some ⟨b15, 0, none⟩)), (3, .pointer (some ⟨b9, 0, none⟩))] ⟨rfl, rfl, rfl, rfl, trivial⟩
      clear h186
      exact cut_n ⟨h191.keep _ ⟨rfl, rfl, rfl, rfl, trivial⟩, by rw [cT hc182]; exact hB188, ho189, ho190⟩
    ·
      refine c_skip (by kernel_rfl) ?_
      exact cut_n ⟨h181.keep _ ⟨rfl, rfl, rfl, rfl, trivial⟩, by rw [cF hc182]; exact hB177, ho178, ho179⟩
  rintro q192 w193 ⟨h194, hB195, ho196, ho197⟩
  refine then_n ?_
  refine kS ?_
  refine kS ?_
  refine rp 2 ?_
  refine b0 (.C 0 61 <| .L 1 62 2 3 <| .nil) [(62, .bool m.hasPart), (8, .pointer (some ⟨b132, 0, none⟩)), (5, .int .i64 0), (4, .pointer (some ⟨b15, 0, none⟩)), (3, .pointer (some ⟨b9, 0, none⟩))] h194 (Kw.nil hB195) fun q198 h199 => ?_
  clear h194
  refine wpO_end ?_
  refine then_n ?_
  refine c_cut (fun qa qw => Fr 76 [(8, .pointer (some ⟨b132, 0, none⟩)), (5, .int .i64 0), (4, .pointer (some ⟨b15, 0, none⟩))] qa ∧ Bx w [(b132, .cells #[.string i.ref, .int .i64 i.kind, .string i.sender, .string i.cpty, .int .i64 i.side, .string i.asset, .int .i64 i.qty, .int .i64 (bif m.hasAmt then m.amt else i.amt), .int .i64 i.tday, .int .i64 (bif m.hasDay then m.sday else i.sday), .int .i64 (bif m.hasPrio then m.prio else i.prio), .bool (bif m.hasPart then m.part else i.part), .int .i64 (bif m.hasPart then m.minlot else i.minlot), .bool i.hold, .bool i.resv, .slice A122 i.links.length cp123] 29 (0, 0)), (b15, .cells #[.string (⟨#[]⟩ : ByteArray), .int .i64 0, .string (⟨#[]⟩ : ByteArray), .string (⟨#[]⟩ : ByteArray), .int .i64 0, .string (⟨#[]⟩ : ByteArray), .int .i64 0, .int .i64 0, .int .i64 0, .int .i64 0, .int .i64 0, .bool false, .int .i64 0, .bool false, .bool false, .slice none 0 0] 29 (0, 0)), (b9, .cells (amV m).cells 43 (0, 0)), (b3, .cells (insV i A c).cells 29 (0, 0))] qw ∧ World.ownsRow qw base 66 2 (.slice A i.links.length c) i.links.length (lkc i.links) ∧ World.ownsRow qw w.heap.size 66 2 (.slice A122 i.links.length cp123) i.links.length (lkc i.links)) ?_ ?_
  ·
    refine kC 62 m.hasPart h199 (fun hc200 => ?_) (fun hc200 => ?_)
    ·
      have hD201 := hB195.drew
      refine rd (Bx w [(b15, .cells #[.string (⟨#[]⟩ : ByteArray), .int .i64 0, .string (⟨#[]⟩ : ByteArray), .string (⟨#[]⟩ : ByteArray), .int .i64 0, .string (⟨#[]⟩ : ByteArray), .int .i64 0, .int .i64 0, .int .i64 0, .int .i64 0, .int .i64 0, .bool false, .int .i64 0, .bool false, .bool false, .slice none 0 0] 29 (0, 0)), (b9, .cells (amV m).cells 43 (0, 0)), (b3, .cells (insV i A c).cells 29 (0, 0))]) 8 [⟨0, true, 0, 8, 9223372036854775808⟩, ⟨1, true, 1, 9223372036854775808, 18446744073709551616⟩, ⟨2, true, 0, 8, 36893488147419103232⟩, ⟨3, true, 4, 36893488147419103232, 73786976294838206464⟩, ⟨4, true, 3, 256, 147573952589676412928⟩, ⟨5, false, 19, 166020696663385964544, 0⟩, ⟨6, true, 63, 256, 295147905179352825856⟩, ⟨7, false, 127, 368934881474191032320, 0⟩] hD201.tail ?_
      have ho202 := own_drew ho196
      have ho203 := own_drew ho197
      generalize World.drew w193 = w204 at hD201 ho202 ho203 ⊢
      refine d0 (.C 0 63 <| .L 1 64 1 7 <| .C 2 65 <| .L 3 66 1 8 <| .C 4 67 <| .nil) [(67, .pointer (some ⟨b132, 11, none⟩)), (66, .int .i64 m.minlot), (64, .bool m.part), (8, .pointer (some ⟨b132, 0, none⟩)), (5, .int .i64 0), (4, .pointer (some ⟨b15, 0, none⟩))] h199 (fun _ hS => Kw.nil hS) fun q205 h206 => ?_
      clear h199
      refine sW 5 0 11 [(b132, .cells #[.string i.ref, .int .i64 i.kind, .string i.sender, .string i.cpty, .int .i64 i.side, .string i.asset, .int .i64 i.qty, .int .i64 (bif m.hasAmt then m.amt else i.amt), .int .i64 i.tday, .int .i64 (bif m.hasDay then m.sday else i.sday), .int .i64 (bif m.hasPrio then m.prio else i.prio), .bool m.part, .int .i64 i.minlot, .bool i.hold, .bool i.resv, .slice A122 i.links.length cp123] 29 (0, 0)), (b15, .cells #[.string (⟨#[]⟩ : ByteArray), .int .i64 0, .string (⟨#[]⟩ : ByteArray), .string (⟨#[]⟩ : ByteArray), .int .i64 0, .string (⟨#[]⟩ : ByteArray), .int .i64 0, .int .i64 0, .int .i64 0, .int .i64 0, .int .i64 0, .bool false, .int .i64 0, .bool false, .bool false, .slice none 0 0] 29 (0, 0)), (b9, .cells (amV m).cells 43 (0, 0)), (b3, .cells (insV i A c).cells 29 (0, 0))] h206 gok_none hD201 (.inr fun _ hq => hq.tail) (fun w209 hB210 hT q207 h208 => ?_)
      clear h206 hD201
      have ho211 := own_turned ho202 hT (by kernel_rfl)
      have ho212 := own_turned ho203 hT (by kernel_rfl)
      clear hT
      refine d0 (.C 6 68 <| .nil) [(68, .pointer (some ⟨b132, 12, none⟩)), (66, .int .i64 m.minlot), (8, .pointer (some ⟨b132, 0, none⟩)), (5, .int .i64 0), (4, .pointer (some ⟨b15, 0, none⟩))] h208 (fun _ hS => Kw.nil hS) fun q213 h214 => ?_
      clear h208
      refine sW 7 0 12 [(b132, .cells #[.string i.ref, .int .i64 i.kind, .string i.sender, .string i.cpty, .int .i64 i.side, .string i.asset, .int .i64 i.qty, .int .i64 (bif m.hasAmt then m.amt else i.amt), .int .i64 i.tday, .int .i64 (bif m.hasDay then m.sday else i.sday), .int .i64 (bif m.hasPrio then m.prio else i.prio), .bool m.part, .int .i64 m.minlot, .bool i.hold, .bool i.resv, .slice A122 i.links.length cp123] 29 (0, 0)), (b15, .cells #[.string (⟨#[]⟩ : ByteArray), .int .i64 0, .string (⟨#[]⟩ : ByteArray), .string (⟨#[]⟩ : ByteArray), .int .i64 0, .string (⟨#[]⟩ : ByteArray), .int .i64 0, .int .i64 0, .int .i64 0, .int .i64 0, .int .i64 0, .bool false, .int .i64 0, .bool false, .bool false, .slice none 0 0] 29 (0, 0)), (b9, .cells (amV m).cells 43 (0, 0)), (b3, .cells (insV i A c).cells 29 (0, 0))] h214 gok_none hB210 (.inr fun _ hq => hq.tail) (fun w217 hB218 hT q215 h216 => ?_)
      clear h214 hB210
      have ho219 := own_turned ho211 hT (by kernel_rfl)
      have ho220 := own_turned ho212 hT (by kernel_rfl)
      clear hT
      refine wpO_end ?_
      have h221 := h216.keep [(8, .pointer (some ⟨b132, 0, none⟩)), (5, .int .i64 0), (4, .pointer (some ⟨b15, 0, none⟩))] ⟨rfl, rfl, rfl, trivial⟩
      clear h216
      exact cut_n ⟨h221.keep _ ⟨rfl, rfl, rfl, trivial⟩, by rw [cT hc200, cT hc200]; exact hB218, ho219, ho220⟩
    ·
      refine c_skip (by kernel_rfl) ?_
      exact cut_n ⟨h199.keep _ ⟨rfl, rfl, rfl, trivial⟩, by rw [cF hc200, cF hc200]; exact hB195, ho196, ho197⟩
  rintro q222 w223 ⟨h224, hB225, ho226, ho227⟩
  have hB228 : Bx w [(b132, .cells (insV (amd i m) A122 cp123).cells 29 (0, 0)), (b15, .cells #[.string (⟨#[]⟩ : ByteArray), .int .i64 0, .string (⟨#[]⟩ : ByteArray), .string (⟨#[]⟩ : ByteArray), .int .i64 0, .string (⟨#[]⟩ : ByteArray), .int .i64 0, .int .i64 0, .int .i64 0, .int .i64 0, .int .i64 0, .bool false, .int .i64 0, .bool false, .bool false, .slice none 0 0] 29 (0, 0)), (b9, .cells (amV m).cells 43 (0, 0)), (b3, .cells (insV i A c).cells 29 (0, 0))] w223 := hB225
  clear hB225
  have hln : (amd i m).links.length = i.links.length := rfl
  refine then_n ?_
  refine kS ?_
  refine kS ?_
  refine rp 3 ?_
  refine b0 (.S 0 69 0 0 16 <| .nil) [(69, insV (amd i m) A122 cp123), (8, .pointer (some ⟨b132, 0, none⟩)), (5, .int .i64 0), (4, .pointer (some ⟨b15, 0, none⟩))] h224 (Kw.nil hB228) fun q229 h230 => ?_
  clear h224
  refine sC 1 70 h230 gok_none (c14 (amd i m) A122 cp123 w223 (show (amd i m).links.length ≤ 4611686018427387904 by omega) (own_le ho227) (own_rr ho227)) ?_
  rintro _ w233 ⟨rfl, hb234⟩
  have hB235 := hB228.call hb234
  have ho236 := own_below ho226 hb234
  have ho237 := own_below ho227 hb234
  refine ⟨_, rfl, trivial, fun q231 h232 => ?_⟩
  clear h230 hB228 hb234
  refine b0 (.C 2 9 <| .nil) [(9, .int .i64 (chkI (amd i m))), (8, .pointer (some ⟨b132, 0, none⟩)), (5, .int .i64 0), (4, .pointer (some ⟨b15, 0, none⟩))] h232 (Kw.nil hB235) fun q238 h239 => ?_
  clear h232
  refine wpO_end ?_
  refine then_n ?_
  refine kS ?_
  refine rp 2 ?_
  refine b0 (.C 0 71 <| .E 1 72 (.bool (chkI (amd i m) != (0 : Int))) <| .nil) [(72, .bool (chkI (amd i m) != (0 : Int))), (9, .int .i64 (chkI (amd i m))), (8, .pointer (some ⟨b132, 0, none⟩)), (5, .int .i64 0), (4, .pointer (some ⟨b15, 0, none⟩))] h239 (Kw.nil hB235) fun q240 h241 => ?_
  clear h239
  refine wpO_end ?_
  refine then_n ?_
  refine kC 72 (chkI (amd i m) != (0 : Int)) h241 (fun hc242 => ?_) (fun hc242 => ?_)
  ·
    refine kS ?_
    refine rp 4 ?_
    refine b0 (.E 0 73 (.agg #[.string (⟨#[]⟩ : ByteArray), .int .i64 0, .string (⟨#[]⟩ : ByteArray), .string (⟨#[]⟩ : ByteArray), .int .i64 0, .string (⟨#[]⟩ : ByteArray), .int .i64 0, .int .i64 0, .int .i64 0, .int .i64 0, .int .i64 0, .bool false, .int .i64 0, .bool false, .bool false, .slice none 0 0]) <| .C 1 74 <| .nil) [(74, .int .i64 (chkI (amd i m))), (73, .agg #[.string (⟨#[]⟩ : ByteArray), .int .i64 0, .string (⟨#[]⟩ : ByteArray), .string (⟨#[]⟩ : ByteArray), .int .i64 0, .string (⟨#[]⟩ : ByteArray), .int .i64 0, .int .i64 0, .int .i64 0, .int .i64 0, .int .i64 0, .bool false, .int .i64 0, .bool false, .bool false, .slice none 0 0]), (8, .pointer (some ⟨b132, 0, none⟩)), (5, .int .i64 0), (4, .pointer (some ⟨b15, 0, none⟩))] h241 (Kw.nil hB235) fun q243 h244 => ?_
    clear h241
    refine sW 2 1 0 [(b132, .cells (insV (amd i m) A122 cp123).cells 29 (0, 0)), (b15, .cells #[.string (⟨#[]⟩ : ByteArray), .int .i64 0, .string (⟨#[]⟩ : ByteArray), .string (⟨#[]⟩ : ByteArray), .int .i64 0, .string (⟨#[]⟩ : ByteArray), .int .i64 0, .int .i64 0, .int .i64 0, .int .i64 0, .int .i64 0, .bool false, .int .i64 0, .bool false, .bool false, .slice none 0 0] 29 (0, 0)), (b9, .cells (amV m).cells 43 (0, 0)), (b3, .cells (insV i A c).cells 29 (0, 0))] h244 gok_none hB235 (.inr fun _ _ => trivial) (fun w247 hB248 hT q245 h246 => ?_)
    clear h244 hB235
    have ho249 := own_turned ho236 hT (by kernel_rfl)
    have ho250 := own_turned ho237 hT (by kernel_rfl)
    clear hT
    refine b0 (.C 3 5 <| .nil) [(5, .int .i64 (chkI (amd i m))), (8, .pointer (some ⟨b132, 0, none⟩)), (4, .pointer (some ⟨b15, 0, none⟩))] h246 (Kw.nil hB248) fun q251 h252 => ?_
    clear h246
    refine wpO_end ?_
    refine then_n ?_
    refine c_ret (by kernel_rfl) ?_
    refine then_r ?_
    refine retCT (t := 4) (T := 29) (u := 5) (b := b15) (v := .int .i64 (chkI (amd i m))) (vs := [.string (⟨#[]⟩ : ByteArray), .int .i64 0, .string (⟨#[]⟩ : ByteArray), .string (⟨#[]⟩ : ByteArray), .int .i64 0, .string (⟨#[]⟩ : ByteArray), .int .i64 0, .int .i64 0, .int .i64 0, .int .i64 0, .int .i64 0, .bool false, .int .i64 0, .bool false, .bool false, .slice none 0 0]) h252 (by kernel_rfl) (by kernel_rfl) (by kernel_rfl) hB248 1 (by kernel_rfl) (by kernel_rfl) (by kernel_rfl) ?_
    have e253 : appP i m = (zIns, chkI (amd i m)) := (cF hc33).trans ((cF hc56).trans ((cF hc107).trans (cT hc242)))
    exact ⟨_, _, by rw [e253]; rfl, by rw [e253]; exact own_nil _ _ _ _, hB248.bel⟩
  refine c_skip (by kernel_rfl) ?_
  refine then_n ?_
  refine kS ?_
  refine rp 3 ?_
  refine b0 (.S 0 75 0 0 16 <| .nil) [(75, insV (amd i m) A122 cp123), (5, .int .i64 0), (4, .pointer (some ⟨b15, 0, none⟩))] h241 (Kw.nil hB235) fun q254 h255 => ?_
  clear h241
  refine sW 1 1 0 [(b132, .cells (insV (amd i m) A122 cp123).cells 29 (0, 0)), (b15, .cells (insV (amd i m) A122 cp123).cells 29 (0, 0)), (b9, .cells (amV m).cells 43 (0, 0)), (b3, .cells (insV i A c).cells 29 (0, 0))] h255 gok_none hB235 (.inr fun _ _ => trivial) (fun w258 hB259 hT q256 h257 => ?_)
  clear h255 hB235
  have ho260 := own_turned ho236 hT (by kernel_rfl)
  have ho261 := own_turned ho237 hT (by kernel_rfl)
  clear hT
  refine b0 (.C 2 5 <| .nil) [(5, .int .i64 0), (4, .pointer (some ⟨b15, 0, none⟩))] h257 (Kw.nil hB259) fun q262 h263 => ?_
  clear h257
  refine wpO_end ?_
  refine then_n ?_
  refine c_ret (by kernel_rfl) ?_
  refine retCT (t := 4) (T := 29) (u := 5) (b := b15) (v := .int .i64 0) (vs := [.string ((amd i m).ref), .int .i64 ((amd i m).kind), .string ((amd i m).sender), .string ((amd i m).cpty), .int .i64 ((amd i m).side), .string ((amd i m).asset), .int .i64 ((amd i m).qty), .int .i64 ((amd i m).amt), .int .i64 ((amd i m).tday), .int .i64 ((amd i m).sday), .int .i64 ((amd i m).prio), .bool ((amd i m).part), .int .i64 ((amd i m).minlot), .bool ((amd i m).hold), .bool ((amd i m).resv), .slice A122 ((amd i m).links.length) cp123]) h263 (by kernel_rfl) (by kernel_rfl) (by kernel_rfl) hB259 1 (by kernel_rfl) (by kernel_rfl) (by kernel_rfl) ?_
  have e264 : appP i m = (amd i m, 0) := (cF hc33).trans ((cF hc56).trans ((cF hc107).trans (cF hc242)))
  exact ⟨_, _, by rw [e264]; rfl, by rw [e264]; exact ho261, hB259.bel⟩

set_option maxHeartbeats 4000000 in
set_option maxRecDepth 20000 in
theorem c34 (i : Ins) (m : Am) (A : Option Addr) (c : Nat) (w : World) (hn : i.links.length ≤ 1000) (hr : Rd w A (lkc i.links)) : Calls Tryd.prog 34 #[insV i A c, amV m] w (fun e w' => ∃ (A' : Option Addr) (c' : Nat), e = .returned (.tuple #[insV (appR i m).1 A' c', .int .i64 (appR i m).2]) ∧ (∀ W, Rd W A (lkc i.links) → Rd W A' (lkc (appR i m).1.links)) ∧ Below w.heap.size w w') := by
  refine enter Tryd.func34 (by kernel_rfl) ?_ (by kernel_rfl)
  intro q0 h0
  replace h0 := h0.conv (l' := [(0, insV i A c), (1, amV m)]) rfl
  have hB := Bx.refl w
  refine kS ?_
  refine rp 4 ?_
  refine sA 0 2 (fun b => .pointer (some ⟨b, 0, none⟩)) (.cells (insV i A c).cells 24 (0, 0)) h0 gok_none hB (fun _ _ hq => trivial) (fun b3 w4 hB5 hN q1 h2 => ?_)
  clear h0 hB hN
  refine sA 1 3 (fun b => .pointer (some ⟨b, 0, none⟩)) (.cells (amV m).cells 40 (0, 0)) h2 gok_none hB5 (fun _ _ hq => trivial) (fun b8 w9 hB10 hN q6 h7 => ?_)
  clear h2 hB5 hN
  refine sA 2 4 (fun b => .pointer (some ⟨b, 0, none⟩)) (.cells #[.string (⟨#[]⟩ : ByteArray), .int .i64 0, .string (⟨#[]⟩ : ByteArray), .string (⟨#[]⟩ : ByteArray), .int .i64 0, .string (⟨#[]⟩ : ByteArray), .int .i64 0, .int .i64 0, .int .i64 0, .int .i64 0, .int .i64 0, .bool false, .int .i64 0, .bool false, .bool false, .slice none 0 0] 24 (0, 0)) h7 gok_none hB10 (fun _ _ hq => trivial) (fun b13 w14 hB15 hN q11 h12 => ?_)
  clear h7 hB10 hN
  refine b0 (.C 3 5 <| .nil) [(5, .int .i64 0), (4, .pointer (some ⟨b13, 0, none⟩)), (3, .pointer (some ⟨b8, 0, none⟩)), (2, .pointer (some ⟨b3, 0, none⟩))] h12 (Kw.nil hB15) fun q16 h17 => ?_
  clear h12
  refine wpO_end ?_
  refine then_n ?_
  refine kS ?_
  refine kS ?_
  refine rp 3 ?_
  refine b0 (.S 0 9 2 0 16 <| .nil) [(9, insV i A c), (5, .int .i64 0), (4, .pointer (some ⟨b13, 0, none⟩)), (3, .pointer (some ⟨b8, 0, none⟩)), (2, .pointer (some ⟨b3, 0, none⟩))] h17 (Kw.nil hB15) fun q18 h19 => ?_
  clear h17
  refine sC 1 10 h19 gok_none (c15 i A c w14 (show i.links.length ≤ 4611686018427387904 by omega) (hr.below hB15.bel)) ?_
  rintro _ w22 ⟨rfl, hb23⟩
  have hB24 := hB15.call hb23
  refine ⟨_, rfl, trivial, fun q20 h21 => ?_⟩
  clear h19 hB15 hb23
  refine b0 (.C 2 6 <| .nil) [(6, .int .i64 (refI i)), (5, .int .i64 0), (4, .pointer (some ⟨b13, 0, none⟩)), (3, .pointer (some ⟨b8, 0, none⟩)), (2, .pointer (some ⟨b3, 0, none⟩))] h21 (Kw.nil hB24) fun q25 h26 => ?_
  clear h21
  refine wpO_end ?_
  refine then_n ?_
  refine kS ?_
  refine rp 2 ?_
  refine b0 (.C 0 11 <| .E 1 12 (.bool (refI i != (0 : Int))) <| .nil) [(12, .bool (refI i != (0 : Int))), (6, .int .i64 (refI i)), (5, .int .i64 0), (4, .pointer (some ⟨b13, 0, none⟩)), (3, .pointer (some ⟨b8, 0, none⟩)), (2, .pointer (some ⟨b3, 0, none⟩))] h26 (Kw.nil hB24) fun q27 h28 => ?_
  clear h26
  refine wpO_end ?_
  refine then_n ?_
  refine kC 12 (refI i != (0 : Int)) h28 (fun hc29 => ?_) (fun hc29 => ?_)
  ·
    refine kS ?_
    refine rp 4 ?_
    refine b0 (.E 0 13 (.agg #[.string (⟨#[]⟩ : ByteArray), .int .i64 0, .string (⟨#[]⟩ : ByteArray), .string (⟨#[]⟩ : ByteArray), .int .i64 0, .string (⟨#[]⟩ : ByteArray), .int .i64 0, .int .i64 0, .int .i64 0, .int .i64 0, .int .i64 0, .bool false, .int .i64 0, .bool false, .bool false, .slice none 0 0]) <| .C 1 14 <| .nil) [(14, .int .i64 (refI i)), (13, .agg #[.string (⟨#[]⟩ : ByteArray), .int .i64 0, .string (⟨#[]⟩ : ByteArray), .string (⟨#[]⟩ : ByteArray), .int .i64 0, .string (⟨#[]⟩ : ByteArray), .int .i64 0, .int .i64 0, .int .i64 0, .int .i64 0, .int .i64 0, .bool false, .int .i64 0, .bool false, .bool false, .slice none 0 0]), (5, .int .i64 0), (4, .pointer (some ⟨b13, 0, none⟩)), (3, .pointer (some ⟨b8, 0, none⟩)), (2, .pointer (some ⟨b3, 0, none⟩))] h28 (Kw.nil hB24) fun q30 h31 => ?_
    clear h28
    refine sW 2 0 0 [(b13, .cells #[.string (⟨#[]⟩ : ByteArray), .int .i64 0, .string (⟨#[]⟩ : ByteArray), .string (⟨#[]⟩ : ByteArray), .int .i64 0, .string (⟨#[]⟩ : ByteArray), .int .i64 0, .int .i64 0, .int .i64 0, .int .i64 0, .int .i64 0, .bool false, .int .i64 0, .bool false, .bool false, .slice none 0 0] 24 (0, 0)), (b8, .cells (amV m).cells 40 (0, 0)), (b3, .cells (insV i A c).cells 24 (0, 0))] h31 gok_none hB24 (.inr fun _ _ => trivial) (fun w34 hB35 hT q32 h33 => ?_)
    clear h31 hB24
    clear hT
    refine b0 (.C 3 5 <| .nil) [(5, .int .i64 (refI i)), (4, .pointer (some ⟨b13, 0, none⟩)), (3, .pointer (some ⟨b8, 0, none⟩)), (2, .pointer (some ⟨b3, 0, none⟩))] h33 (Kw.nil hB35) fun q36 h37 => ?_
    clear h33
    refine wpO_end ?_
    refine then_n ?_
    refine c_ret (by kernel_rfl) ?_
    refine then_r ?_
    refine retCT (t := 4) (T := 24) (u := 5) (b := b13) (v := .int .i64 (refI i)) (vs := [.string (⟨#[]⟩ : ByteArray), .int .i64 0, .string (⟨#[]⟩ : ByteArray), .string (⟨#[]⟩ : ByteArray), .int .i64 0, .string (⟨#[]⟩ : ByteArray), .int .i64 0, .int .i64 0, .int .i64 0, .int .i64 0, .int .i64 0, .bool false, .int .i64 0, .bool false, .bool false, .slice none 0 0]) h37 (by kernel_rfl) (by kernel_rfl) (by kernel_rfl) hB35 0 (by kernel_rfl) (by kernel_rfl) (by kernel_rfl) ?_
    have e38 : appR i m = (zIns, refI i) := cT hc29
    exact ⟨_, _, by rw [e38]; rfl, fun _ _ => by rw [e38]; exact Rd.nil _ none, hB35.bel⟩
  refine c_skip (by kernel_rfl) ?_
  refine then_n ?_
  refine kS ?_
  refine kS ?_
  refine rp 3 ?_
  refine b0 (.S 0 15 1 0 9 <| .nil) [(15, amV m), (5, .int .i64 0), (4, .pointer (some ⟨b13, 0, none⟩)), (3, .pointer (some ⟨b8, 0, none⟩)), (2, .pointer (some ⟨b3, 0, none⟩))] h28 (Kw.nil hB24) fun q39 h40 => ?_
  clear h28
  refine sC 1 16 h40 gok_none (c32 m w22) ?_
  rintro _ w43 ⟨rfl, hb44⟩
  have hB45 := hB24.call hb44
  refine ⟨_, rfl, trivial, fun q41 h42 => ?_⟩
  clear h40 hB24 hb44
  refine b0 (.C 2 7 <| .nil) [(7, .int .i64 (refA m)), (5, .int .i64 0), (4, .pointer (some ⟨b13, 0, none⟩)), (3, .pointer (some ⟨b8, 0, none⟩)), (2, .pointer (some ⟨b3, 0, none⟩))] h42 (Kw.nil hB45) fun q46 h47 => ?_
  clear h42
  refine wpO_end ?_
  refine then_n ?_
  refine kS ?_
  refine rp 2 ?_
  refine b0 (.C 0 17 <| .E 1 18 (.bool (refA m != (0 : Int))) <| .nil) [(18, .bool (refA m != (0 : Int))), (7, .int .i64 (refA m)), (5, .int .i64 0), (4, .pointer (some ⟨b13, 0, none⟩)), (3, .pointer (some ⟨b8, 0, none⟩)), (2, .pointer (some ⟨b3, 0, none⟩))] h47 (Kw.nil hB45) fun q48 h49 => ?_
  clear h47
  refine wpO_end ?_
  refine then_n ?_
  refine kC 18 (refA m != (0 : Int)) h49 (fun hc50 => ?_) (fun hc50 => ?_)
  ·
    refine kS ?_
    refine rp 4 ?_
    refine b0 (.E 0 19 (.agg #[.string (⟨#[]⟩ : ByteArray), .int .i64 0, .string (⟨#[]⟩ : ByteArray), .string (⟨#[]⟩ : ByteArray), .int .i64 0, .string (⟨#[]⟩ : ByteArray), .int .i64 0, .int .i64 0, .int .i64 0, .int .i64 0, .int .i64 0, .bool false, .int .i64 0, .bool false, .bool false, .slice none 0 0]) <| .C 1 20 <| .nil) [(20, .int .i64 (refA m)), (19, .agg #[.string (⟨#[]⟩ : ByteArray), .int .i64 0, .string (⟨#[]⟩ : ByteArray), .string (⟨#[]⟩ : ByteArray), .int .i64 0, .string (⟨#[]⟩ : ByteArray), .int .i64 0, .int .i64 0, .int .i64 0, .int .i64 0, .int .i64 0, .bool false, .int .i64 0, .bool false, .bool false, .slice none 0 0]), (5, .int .i64 0), (4, .pointer (some ⟨b13, 0, none⟩)), (3, .pointer (some ⟨b8, 0, none⟩)), (2, .pointer (some ⟨b3, 0, none⟩))] h49 (Kw.nil hB45) fun q51 h52 => ?_
    clear h49
    refine sW 2 0 0 [(b13, .cells #[.string (⟨#[]⟩ : ByteArray), .int .i64 0, .string (⟨#[]⟩ : ByteArray), .string (⟨#[]⟩ : ByteArray), .int .i64 0, .string (⟨#[]⟩ : ByteArray), .int .i64 0, .int .i64 0, .int .i64 0, .int .i64 0, .int .i64 0, .bool false, .int .i64 0, .bool false, .bool false, .slice none 0 0] 24 (0, 0)), (b8, .cells (amV m).cells 40 (0, 0)), (b3, .cells (insV i A c).cells 24 (0, 0))] h52 gok_none hB45 (.inr fun _ _ => trivial) (fun w55 hB56 hT q53 h54 => ?_)
    clear h52 hB45
    clear hT
    refine b0 (.C 3 5 <| .nil) [(5, .int .i64 (refA m)), (4, .pointer (some ⟨b13, 0, none⟩)), (3, .pointer (some ⟨b8, 0, none⟩)), (2, .pointer (some ⟨b3, 0, none⟩))] h54 (Kw.nil hB56) fun q57 h58 => ?_
    clear h54
    refine wpO_end ?_
    refine then_n ?_
    refine c_ret (by kernel_rfl) ?_
    refine then_r ?_
    refine retCT (t := 4) (T := 24) (u := 5) (b := b13) (v := .int .i64 (refA m)) (vs := [.string (⟨#[]⟩ : ByteArray), .int .i64 0, .string (⟨#[]⟩ : ByteArray), .string (⟨#[]⟩ : ByteArray), .int .i64 0, .string (⟨#[]⟩ : ByteArray), .int .i64 0, .int .i64 0, .int .i64 0, .int .i64 0, .int .i64 0, .bool false, .int .i64 0, .bool false, .bool false, .slice none 0 0]) h58 (by kernel_rfl) (by kernel_rfl) (by kernel_rfl) hB56 0 (by kernel_rfl) (by kernel_rfl) (by kernel_rfl) ?_
    have e59 : appR i m = (zIns, refA m) := (cF hc29).trans (cT hc50)
    exact ⟨_, _, by rw [e59]; rfl, fun _ _ => by rw [e59]; exact Rd.nil _ none, hB56.bel⟩
  refine c_skip (by kernel_rfl) ?_
  refine then_n ?_
  refine kS ?_
  refine kS ?_
  refine rp 21 ?_
  refine b0 (.C 0 21 <| .L 1 22 1 0 <| .C 2 23 <| .J 6 27 23 26 true m.hasAmt (decide ((1 : Int) < i.kind)) (.C 3 24 <| .L 4 25 2 1 <| .E 5 26 (.bool (decide ((1 : Int) < i.kind))) <| .nil) <| .C 7 28 <| .J 20 41 28 40 false (m.hasAmt && (decide ((1 : Int) < i.kind))) ((m.hasPart && (i.kind != (1 : Int))) && (i.kind != (2 : Int))) (.C 8 29 <| .L 9 30 1 3 <| .C 10 31 <| .J 14 35 31 34 true m.hasPart (i.kind != (1 : Int)) (.C 11 32 <| .L 12 33 2 1 <| .E 13 34 (.bool (i.kind != (1 : Int))) <| .nil) <| .C 15 36 <| .J 19 40 36 39 true (m.hasPart && (i.kind != (1 : Int))) (i.kind != (2 : Int)) (.C 16 37 <| .L 17 38 2 1 <| .E 18 39 (.bool (i.kind != (2 : Int))) <| .nil) <| .nil) <| .nil) [(41, .bool ((m.hasAmt && (decide ((1 : Int) < i.kind))) || ((m.hasPart && (i.kind != (1 : Int))) && (i.kind != (2 : Int))))), (5, .int .i64 0), (4, .pointer (some ⟨b13, 0, none⟩)), (3, .pointer (some ⟨b8, 0, none⟩)), (2, .pointer (some ⟨b3, 0, none⟩))] h49 (Kw.nil hB45) fun q60 h61 => ?_
  clear h49
  refine wpO_end ?_
  refine then_n ?_
  refine kC 41 ((m.hasAmt && (decide ((1 : Int) < i.kind))) || ((m.hasPart && (i.kind != (1 : Int))) && (i.kind != (2 : Int)))) h61 (fun hc62 => ?_) (fun hc62 => ?_)
  ·
    refine kS ?_
    refine rp 3 ?_
    refine b0 (.E 0 42 (.agg #[.string (⟨#[]⟩ : ByteArray), .int .i64 0, .string (⟨#[]⟩ : ByteArray), .string (⟨#[]⟩ : ByteArray), .int .i64 0, .string (⟨#[]⟩ : ByteArray), .int .i64 0, .int .i64 0, .int .i64 0, .int .i64 0, .int .i64 0, .bool false, .int .i64 0, .bool false, .bool false, .slice none 0 0]) <| .nil) [(42, .agg #[.string (⟨#[]⟩ : ByteArray), .int .i64 0, .string (⟨#[]⟩ : ByteArray), .string (⟨#[]⟩ : ByteArray), .int .i64 0, .string (⟨#[]⟩ : ByteArray), .int .i64 0, .int .i64 0, .int .i64 0, .int .i64 0, .int .i64 0, .bool false, .int .i64 0, .bool false, .bool false, .slice none 0 0]), (5, .int .i64 0), (4, .pointer (some ⟨b13, 0, none⟩)), (3, .pointer (some ⟨b8, 0, none⟩)), (2, .pointer (some ⟨b3, 0, none⟩))] h61 (Kw.nil hB45) fun q63 h64 => ?_
    clear h61
    refine sW 1 0 0 [(b13, .cells #[.string (⟨#[]⟩ : ByteArray), .int .i64 0, .string (⟨#[]⟩ : ByteArray), .string (⟨#[]⟩ : ByteArray), .int .i64 0, .string (⟨#[]⟩ : ByteArray), .int .i64 0, .int .i64 0, .int .i64 0, .int .i64 0, .int .i64 0, .bool false, .int .i64 0, .bool false, .bool false, .slice none 0 0] 24 (0, 0)), (b8, .cells (amV m).cells 40 (0, 0)), (b3, .cells (insV i A c).cells 24 (0, 0))] h64 gok_none hB45 (.inr fun _ _ => trivial) (fun w67 hB68 hT q65 h66 => ?_)
    clear h64 hB45
    clear hT
    refine b0 (.C 2 5 <| .nil) [(5, .int .i64 3), (4, .pointer (some ⟨b13, 0, none⟩)), (3, .pointer (some ⟨b8, 0, none⟩)), (2, .pointer (some ⟨b3, 0, none⟩))] h66 (Kw.nil hB68) fun q69 h70 => ?_
    clear h66
    refine wpO_end ?_
    refine then_n ?_
    refine c_ret (by kernel_rfl) ?_
    refine then_r ?_
    refine retCT (t := 4) (T := 24) (u := 5) (b := b13) (v := .int .i64 3) (vs := [.string (⟨#[]⟩ : ByteArray), .int .i64 0, .string (⟨#[]⟩ : ByteArray), .string (⟨#[]⟩ : ByteArray), .int .i64 0, .string (⟨#[]⟩ : ByteArray), .int .i64 0, .int .i64 0, .int .i64 0, .int .i64 0, .int .i64 0, .bool false, .int .i64 0, .bool false, .bool false, .slice none 0 0]) h70 (by kernel_rfl) (by kernel_rfl) (by kernel_rfl) hB68 0 (by kernel_rfl) (by kernel_rfl) (by kernel_rfl) ?_
    have e71 : appR i m = (zIns, 3) := (cF hc29).trans ((cF hc50).trans (cT hc62))
    exact ⟨_, _, by rw [e71]; rfl, fun _ _ => by rw [e71]; exact Rd.nil _ none, hB68.bel⟩
  refine c_skip (by kernel_rfl) ?_
  refine then_n ?_
  refine kS ?_
  refine kS ?_
  refine rp 2 ?_
  refine b0 (.C 0 43 <| .L 1 44 1 0 <| .nil) [(44, .bool m.hasAmt), (5, .int .i64 0), (4, .pointer (some ⟨b13, 0, none⟩)), (3, .pointer (some ⟨b8, 0, none⟩)), (2, .pointer (some ⟨b3, 0, none⟩))] h61 (Kw.nil hB45) fun q72 h73 => ?_
  clear h61
  refine wpO_end ?_
  refine then_n ?_
  refine c_cut (fun qa qw => Fr 73 [(5, .int .i64 0), (4, .pointer (some ⟨b13, 0, none⟩)), (3, .pointer (some ⟨b8, 0, none⟩)), (2, .pointer (some ⟨b3, 0, none⟩))] qa ∧ Bx w [(b13, .cells #[.string (⟨#[]⟩ : ByteArray), .int .i64 0, .string (⟨#[]⟩ : ByteArray), .string (⟨#[]⟩ : ByteArray), .int .i64 0, .string (⟨#[]⟩ : ByteArray), .int .i64 0, .int .i64 0, .int .i64 0, .int .i64 0, .int .i64 0, .bool false, .int .i64 0, .bool false, .bool false, .slice none 0 0] 24 (0, 0)), (b8, .cells (amV m).cells 40 (0, 0)), (b3, .cells #[.string i.ref, .int .i64 i.kind, .string i.sender, .string i.cpty, .int .i64 i.side, .string i.asset, .int .i64 i.qty, .int .i64 (bif m.hasAmt then m.amt else i.amt), .int .i64 i.tday, .int .i64 i.sday, .int .i64 i.prio, .bool i.part, .int .i64 i.minlot, .bool i.hold, .bool i.resv, .slice A i.links.length c] 24 (0, 0))] qw) ?_ ?_
  ·
    refine kC 44 m.hasAmt h73 (fun hc74 => ?_) (fun hc74 => ?_)
    ·
      refine rp 4 ?_
      refine b0 (.C 0 45 <| .L 1 46 1 4 <| .C 2 47 <| .nil) [(47, .pointer (some ⟨b3, 7, none⟩)), (46, .int .i64 m.amt), (5, .int .i64 0), (4, .pointer (some ⟨b13, 0, none⟩)), (3, .pointer (some ⟨b8, 0, none⟩)), (2, .pointer (some ⟨b3, 0, none⟩))] h73 (Kw.nil hB45) fun q75 h76 => ?_
      clear h73
      refine sW 3 2 7 [(b13, .cells #[.string (⟨#[]⟩ : ByteArray), .int .i64 0, .string (⟨#[]⟩ : ByteArray), .string (⟨#[]⟩ : ByteArray), .int .i64 0, .string (⟨#[]⟩ : ByteArray), .int .i64 0, .int .i64 0, .int .i64 0, .int .i64 0, .int .i64 0, .bool false, .int .i64 0, .bool false, .bool false, .slice none 0 0] 24 (0, 0)), (b8, .cells (amV m).cells 40 (0, 0)), (b3, .cells #[.string i.ref, .int .i64 i.kind, .string i.sender, .string i.cpty, .int .i64 i.side, .string i.asset, .int .i64 i.qty, .int .i64 m.amt, .int .i64 i.tday, .int .i64 i.sday, .int .i64 i.prio, .bool i.part, .int .i64 i.minlot, .bool i.hold, .bool i.resv, .slice A i.links.length c] 24 (0, 0))] h76 gok_none hB45 (.inr fun _ _ => trivial) (fun w79 hB80 hT q77 h78 => ?_)
      clear h76 hB45
      clear hT
      refine wpO_end ?_
      have h81 := h78.keep [(5, .int .i64 0), (4, .pointer (some ⟨b13, 0, none⟩)), (3, .pointer (some ⟨b8, 0, none⟩)), (2, .pointer (some ⟨b3, 0, none⟩))] ⟨rfl, rfl, rfl, rfl, trivial⟩
      clear h78
      exact cut_n ⟨h81.keep _ ⟨rfl, rfl, rfl, rfl, trivial⟩, by rw [cT hc74]; exact hB80⟩
    ·
      refine c_skip (by kernel_rfl) ?_
      exact cut_n ⟨h73.keep _ ⟨rfl, rfl, rfl, rfl, trivial⟩, by rw [cF hc74]; exact hB45⟩
  rintro q82 w83 ⟨h84, hB85⟩
  refine then_n ?_
  refine kS ?_
  refine kS ?_
  refine rp 2 ?_
  refine b0 (.C 0 48 <| .L 1 49 1 1 <| .nil) [(49, .bool m.hasDay), (5, .int .i64 0), (4, .pointer (some ⟨b13, 0, none⟩)), (3, .pointer (some ⟨b8, 0, none⟩)), (2, .pointer (some ⟨b3, 0, none⟩))] h84 (Kw.nil hB85) fun q86 h87 => ?_
  clear h84
  refine wpO_end ?_
  refine then_n ?_
  refine c_cut (fun qa qw => Fr 73 [(5, .int .i64 0), (4, .pointer (some ⟨b13, 0, none⟩)), (3, .pointer (some ⟨b8, 0, none⟩)), (2, .pointer (some ⟨b3, 0, none⟩))] qa ∧ Bx w [(b13, .cells #[.string (⟨#[]⟩ : ByteArray), .int .i64 0, .string (⟨#[]⟩ : ByteArray), .string (⟨#[]⟩ : ByteArray), .int .i64 0, .string (⟨#[]⟩ : ByteArray), .int .i64 0, .int .i64 0, .int .i64 0, .int .i64 0, .int .i64 0, .bool false, .int .i64 0, .bool false, .bool false, .slice none 0 0] 24 (0, 0)), (b8, .cells (amV m).cells 40 (0, 0)), (b3, .cells #[.string i.ref, .int .i64 i.kind, .string i.sender, .string i.cpty, .int .i64 i.side, .string i.asset, .int .i64 i.qty, .int .i64 (bif m.hasAmt then m.amt else i.amt), .int .i64 i.tday, .int .i64 (bif m.hasDay then m.sday else i.sday), .int .i64 i.prio, .bool i.part, .int .i64 i.minlot, .bool i.hold, .bool i.resv, .slice A i.links.length c] 24 (0, 0))] qw) ?_ ?_
  ·
    refine kC 49 m.hasDay h87 (fun hc88 => ?_) (fun hc88 => ?_)
    ·
      refine rp 4 ?_
      refine b0 (.C 0 50 <| .L 1 51 1 5 <| .C 2 52 <| .nil) [(52, .pointer (some ⟨b3, 9, none⟩)), (51, .int .i64 m.sday), (5, .int .i64 0), (4, .pointer (some ⟨b13, 0, none⟩)), (3, .pointer (some ⟨b8, 0, none⟩)), (2, .pointer (some ⟨b3, 0, none⟩))] h87 (Kw.nil hB85) fun q89 h90 => ?_
      clear h87
      refine sW 3 2 9 [(b13, .cells #[.string (⟨#[]⟩ : ByteArray), .int .i64 0, .string (⟨#[]⟩ : ByteArray), .string (⟨#[]⟩ : ByteArray), .int .i64 0, .string (⟨#[]⟩ : ByteArray), .int .i64 0, .int .i64 0, .int .i64 0, .int .i64 0, .int .i64 0, .bool false, .int .i64 0, .bool false, .bool false, .slice none 0 0] 24 (0, 0)), (b8, .cells (amV m).cells 40 (0, 0)), (b3, .cells #[.string i.ref, .int .i64 i.kind, .string i.sender, .string i.cpty, .int .i64 i.side, .string i.asset, .int .i64 i.qty, .int .i64 (bif m.hasAmt then m.amt else i.amt), .int .i64 i.tday, .int .i64 m.sday, .int .i64 i.prio, .bool i.part, .int .i64 i.minlot, .bool i.hold, .bool i.resv, .slice A i.links.length c] 24 (0, 0))] h90 gok_none hB85 (.inr fun _ _ => trivial) (fun w93 hB94 hT q91 h92 => ?_)
      clear h90 hB85
      clear hT
      refine wpO_end ?_
      have h95 := h92.keep [(5, .int .i64 0), (4, .pointer (some ⟨b13, 0, none⟩)), (3, .pointer (some ⟨b8, 0, none⟩)), (2, .pointer (some ⟨b3, 0, none⟩))] ⟨rfl, rfl, rfl, rfl, trivial⟩
      clear h92
      exact cut_n ⟨h95.keep _ ⟨rfl, rfl, rfl, rfl, trivial⟩, by rw [cT hc88]; exact hB94⟩
    ·
      refine c_skip (by kernel_rfl) ?_
      exact cut_n ⟨h87.keep _ ⟨rfl, rfl, rfl, rfl, trivial⟩, by rw [cF hc88]; exact hB85⟩
  rintro q96 w97 ⟨h98, hB99⟩
  refine then_n ?_
  refine kS ?_
  refine kS ?_
  refine rp 2 ?_
  refine b0 (.C 0 53 <| .L 1 54 1 2 <| .nil) [(54, .bool m.hasPrio), (5, .int .i64 0), (4, .pointer (some ⟨b13, 0, none⟩)), (3, .pointer (some ⟨b8, 0, none⟩)), (2, .pointer (some ⟨b3, 0, none⟩))] h98 (Kw.nil hB99) fun q100 h101 => ?_
  clear h98
  refine wpO_end ?_
  refine then_n ?_
  refine c_cut (fun qa qw => Fr 73 [(5, .int .i64 0), (4, .pointer (some ⟨b13, 0, none⟩)), (3, .pointer (some ⟨b8, 0, none⟩)), (2, .pointer (some ⟨b3, 0, none⟩))] qa ∧ Bx w [(b13, .cells #[.string (⟨#[]⟩ : ByteArray), .int .i64 0, .string (⟨#[]⟩ : ByteArray), .string (⟨#[]⟩ : ByteArray), .int .i64 0, .string (⟨#[]⟩ : ByteArray), .int .i64 0, .int .i64 0, .int .i64 0, .int .i64 0, .int .i64 0, .bool false, .int .i64 0, .bool false, .bool false, .slice none 0 0] 24 (0, 0)), (b8, .cells (amV m).cells 40 (0, 0)), (b3, .cells #[.string i.ref, .int .i64 i.kind, .string i.sender, .string i.cpty, .int .i64 i.side, .string i.asset, .int .i64 i.qty, .int .i64 (bif m.hasAmt then m.amt else i.amt), .int .i64 i.tday, .int .i64 (bif m.hasDay then m.sday else i.sday), .int .i64 (bif m.hasPrio then m.prio else i.prio), .bool i.part, .int .i64 i.minlot, .bool i.hold, .bool i.resv, .slice A i.links.length c] 24 (0, 0))] qw) ?_ ?_
  ·
    refine kC 54 m.hasPrio h101 (fun hc102 => ?_) (fun hc102 => ?_)
    ·
      refine rp 4 ?_
      refine b0 (.C 0 55 <| .L 1 56 1 6 <| .C 2 57 <| .nil) [(57, .pointer (some ⟨b3, 10, none⟩)), (56, .int .i64 m.prio), (5, .int .i64 0), (4, .pointer (some ⟨b13, 0, none⟩)), (3, .pointer (some ⟨b8, 0, none⟩)), (2, .pointer (some ⟨b3, 0, none⟩))] h101 (Kw.nil hB99) fun q103 h104 => ?_
      clear h101
      refine sW 3 2 10 [(b13, .cells #[.string (⟨#[]⟩ : ByteArray), .int .i64 0, .string (⟨#[]⟩ : ByteArray), .string (⟨#[]⟩ : ByteArray), .int .i64 0, .string (⟨#[]⟩ : ByteArray), .int .i64 0, .int .i64 0, .int .i64 0, .int .i64 0, .int .i64 0, .bool false, .int .i64 0, .bool false, .bool false, .slice none 0 0] 24 (0, 0)), (b8, .cells (amV m).cells 40 (0, 0)), (b3, .cells #[.string i.ref, .int .i64 i.kind, .string i.sender, .string i.cpty, .int .i64 i.side, .string i.asset, .int .i64 i.qty, .int .i64 (bif m.hasAmt then m.amt else i.amt), .int .i64 i.tday, .int .i64 (bif m.hasDay then m.sday else i.sday), .int .i64 m.prio, .bool i.part, .int .i64 i.minlot, .bool i.hold, .bool i.resv, .slice A i.links.length c] 24 (0, 0))] h104 gok_none hB99 (.inr fun _ _ => trivial) (fun w107 hB108 hT q105 h106 => ?_)
      clear h104 hB99
      clear hT
      refine wpO_end ?_
      have h109 := h106.keep [(5, .int .i64 0), (4, .pointer (some ⟨b13, 0, none⟩)), (3, .pointer (some ⟨b8, 0, none⟩)), (2, .pointer (some ⟨b3, 0, none⟩))] ⟨rfl, rfl, rfl, rfl, trivial⟩
      clear h106
      exact cut_n ⟨h109.keep _ ⟨rfl, rfl, rfl, rfl, trivial⟩, by rw [cT hc102]; exact hB108⟩
    ·
      refine c_skip (by kernel_rfl) ?_
      exact cut_n ⟨h101.keep _ ⟨rfl, rfl, rfl, rfl, trivial⟩, by rw [cF hc102]; exact hB99⟩
  rintro q110 w111 ⟨h112, hB113⟩
  refine then_n ?_
  refine kS ?_
  refine kS ?_
  refine rp 2 ?_
  refine b0 (.C 0 58 <| .L 1 59 1 3 <| .nil) [(59, .bool m.hasPart), (5, .int .i64 0), (4, .pointer (some ⟨b13, 0, none⟩)), (3, .pointer (some ⟨b8, 0, none⟩)), (2, .pointer (some ⟨b3, 0, none⟩))] h112 (Kw.nil hB113) fun q114 h115 => ?_
  clear h112
  refine wpO_end ?_
  refine then_n ?_
  refine c_cut (fun qa qw => Fr 73 [(5, .int .i64 0), (4, .pointer (some ⟨b13, 0, none⟩)), (2, .pointer (some ⟨b3, 0, none⟩))] qa ∧ Bx w [(b13, .cells #[.string (⟨#[]⟩ : ByteArray), .int .i64 0, .string (⟨#[]⟩ : ByteArray), .string (⟨#[]⟩ : ByteArray), .int .i64 0, .string (⟨#[]⟩ : ByteArray), .int .i64 0, .int .i64 0, .int .i64 0, .int .i64 0, .int .i64 0, .bool false, .int .i64 0, .bool false, .bool false, .slice none 0 0] 24 (0, 0)), (b8, .cells (amV m).cells 40 (0, 0)), (b3, .cells #[.string i.ref, .int .i64 i.kind, .string i.sender, .string i.cpty, .int .i64 i.side, .string i.asset, .int .i64 i.qty, .int .i64 (bif m.hasAmt then m.amt else i.amt), .int .i64 i.tday, .int .i64 (bif m.hasDay then m.sday else i.sday), .int .i64 (bif m.hasPrio then m.prio else i.prio), .bool (bif m.hasPart then m.part else i.part), .int .i64 (bif m.hasPart then m.minlot else i.minlot), .bool i.hold, .bool i.resv, .slice A i.links.length c] 24 (0, 0))] qw) ?_ ?_
  ·
    refine kC 59 m.hasPart h115 (fun hc116 => ?_) (fun hc116 => ?_)
    ·
      have hB117 : Bx w [(b3, .cells #[.string i.ref, .int .i64 i.kind, .string i.sender, .string i.cpty, .int .i64 i.side, .string i.asset, .int .i64 i.qty, .int .i64 (bif m.hasAmt then m.amt else i.amt), .int .i64 i.tday, .int .i64 (bif m.hasDay then m.sday else i.sday), .int .i64 (bif m.hasPrio then m.prio else i.prio), .bool i.part, .int .i64 i.minlot, .bool i.hold, .bool i.resv, .slice A i.links.length c] 24 (0, 0)), (b13, .cells #[.string (⟨#[]⟩ : ByteArray), .int .i64 0, .string (⟨#[]⟩ : ByteArray), .string (⟨#[]⟩ : ByteArray), .int .i64 0, .string (⟨#[]⟩ : ByteArray), .int .i64 0, .int .i64 0, .int .i64 0, .int .i64 0, .int .i64 0, .bool false, .int .i64 0, .bool false, .bool false, .slice none 0 0] 24 (0, 0)), (b8, .cells (amV m).cells 40 (0, 0))] w111 := hB113.sel [2, 0, 1] (by decide) rfl
      clear hB113
      have hD118 := hB117.drew
      refine rd (Bx w [(b13, .cells #[.string (⟨#[]⟩ : ByteArray), .int .i64 0, .string (⟨#[]⟩ : ByteArray), .string (⟨#[]⟩ : ByteArray), .int .i64 0, .string (⟨#[]⟩ : ByteArray), .int .i64 0, .int .i64 0, .int .i64 0, .int .i64 0, .int .i64 0, .bool false, .int .i64 0, .bool false, .bool false, .slice none 0 0] 24 (0, 0)), (b8, .cells (amV m).cells 40 (0, 0))]) 8 [⟨0, true, 0, 8, 1152921504606846976⟩, ⟨1, true, 1, 1152921504606846976, 2305843009213693952⟩, ⟨2, true, 0, 8, 4611686018427387904⟩, ⟨3, true, 4, 4611686018427387904, 9223372036854775808⟩, ⟨4, true, 3, 4, 18446744073709551616⟩, ⟨5, false, 19, 20752587082923245568, 0⟩, ⟨6, true, 63, 4, 36893488147419103232⟩, ⟨7, false, 127, 46116860184273879040, 0⟩] hD118.tail ?_
      generalize World.drew w111 = w119 at hD118 ⊢
      refine d0 (.C 0 60 <| .L 1 61 1 7 <| .C 2 62 <| .L 3 63 1 8 <| .C 4 64 <| .nil) [(64, .pointer (some ⟨b3, 11, none⟩)), (63, .int .i64 m.minlot), (61, .bool m.part), (5, .int .i64 0), (4, .pointer (some ⟨b13, 0, none⟩)), (2, .pointer (some ⟨b3, 0, none⟩))] h115 (fun _ hS => Kw.nil hS) fun q120 h121 => ?_
      clear h115
      refine sW 5 0 11 [(b3, .cells #[.string i.ref, .int .i64 i.kind, .string i.sender, .string i.cpty, .int .i64 i.side, .string i.asset, .int .i64 i.qty, .int .i64 (bif m.hasAmt then m.amt else i.amt), .int .i64 i.tday, .int .i64 (bif m.hasDay then m.sday else i.sday), .int .i64 (bif m.hasPrio then m.prio else i.prio), .bool m.part, .int .i64 i.minlot, .bool i.hold, .bool i.resv, .slice A i.links.length c] 24 (0, 0)), (b13, .cells #[.string (⟨#[]⟩ : ByteArray), .int .i64 0, .string (⟨#[]⟩ : ByteArray), .string (⟨#[]⟩ : ByteArray), .int .i64 0, .string (⟨#[]⟩ : ByteArray), .int .i64 0, .int .i64 0, .int .i64 0, .int .i64 0, .int .i64 0, .bool false, .int .i64 0, .bool false, .bool false, .slice none 0 0] 24 (0, 0)), (b8, .cells (amV m).cells 40 (0, 0))] h121 gok_none hD118 (.inr fun _ hq => hq.tail) (fun w124 hB125 hT q122 h123 => ?_)
      clear h121 hD118
      clear hT
      refine d0 (.C 6 65 <| .nil) [(65, .pointer (some ⟨b3, 12, none⟩)), (63, .int .i64 m.minlot), (5, .int .i64 0), (4, .pointer (some ⟨b13, 0, none⟩)), (2, .pointer (some ⟨b3, 0, none⟩))] h123 (fun _ hS => Kw.nil hS) fun q126 h127 => ?_
      clear h123
      refine sW 7 0 12 [(b3, .cells #[.string i.ref, .int .i64 i.kind, .string i.sender, .string i.cpty, .int .i64 i.side, .string i.asset, .int .i64 i.qty, .int .i64 (bif m.hasAmt then m.amt else i.amt), .int .i64 i.tday, .int .i64 (bif m.hasDay then m.sday else i.sday), .int .i64 (bif m.hasPrio then m.prio else i.prio), .bool m.part, .int .i64 m.minlot, .bool i.hold, .bool i.resv, .slice A i.links.length c] 24 (0, 0)), (b13, .cells #[.string (⟨#[]⟩ : ByteArray), .int .i64 0, .string (⟨#[]⟩ : ByteArray), .string (⟨#[]⟩ : ByteArray), .int .i64 0, .string (⟨#[]⟩ : ByteArray), .int .i64 0, .int .i64 0, .int .i64 0, .int .i64 0, .int .i64 0, .bool false, .int .i64 0, .bool false, .bool false, .slice none 0 0] 24 (0, 0)), (b8, .cells (amV m).cells 40 (0, 0))] h127 gok_none hB125 (.inr fun _ hq => hq.tail) (fun w130 hB131 hT q128 h129 => ?_)
      clear h127 hB125
      clear hT
      refine wpO_end ?_
      have h132 := h129.keep [(5, .int .i64 0), (4, .pointer (some ⟨b13, 0, none⟩)), (2, .pointer (some ⟨b3, 0, none⟩))] ⟨rfl, rfl, rfl, trivial⟩
      clear h129
      have hB133 : Bx w [(b13, .cells #[.string (⟨#[]⟩ : ByteArray), .int .i64 0, .string (⟨#[]⟩ : ByteArray), .string (⟨#[]⟩ : ByteArray), .int .i64 0, .string (⟨#[]⟩ : ByteArray), .int .i64 0, .int .i64 0, .int .i64 0, .int .i64 0, .int .i64 0, .bool false, .int .i64 0, .bool false, .bool false, .slice none 0 0] 24 (0, 0)), (b8, .cells (amV m).cells 40 (0, 0)), (b3, .cells #[.string i.ref, .int .i64 i.kind, .string i.sender, .string i.cpty, .int .i64 i.side, .string i.asset, .int .i64 i.qty, .int .i64 (bif m.hasAmt then m.amt else i.amt), .int .i64 i.tday, .int .i64 (bif m.hasDay then m.sday else i.sday), .int .i64 (bif m.hasPrio then m.prio else i.prio), .bool m.part, .int .i64 m.minlot, .bool i.hold, .bool i.resv, .slice A i.links.length c] 24 (0, 0))] w130 := hB131.sel [1, 2, 0] (by decide) rfl
      clear hB131
      exact cut_n ⟨h132.keep _ ⟨rfl, rfl, rfl, trivial⟩, by rw [cT hc116, cT hc116]; exact hB133⟩
    ·
      refine c_skip (by kernel_rfl) ?_
      exact cut_n ⟨h115.keep _ ⟨rfl, rfl, rfl, trivial⟩, by rw [cF hc116, cF hc116]; exact hB113⟩
  rintro q134 w135 ⟨h136, hB137⟩
  have hB138 : Bx w [(b13, .cells #[.string (⟨#[]⟩ : ByteArray), .int .i64 0, .string (⟨#[]⟩ : ByteArray), .string (⟨#[]⟩ : ByteArray), .int .i64 0, .string (⟨#[]⟩ : ByteArray), .int .i64 0, .int .i64 0, .int .i64 0, .int .i64 0, .int .i64 0, .bool false, .int .i64 0, .bool false, .bool false, .slice none 0 0] 24 (0, 0)), (b8, .cells (amV m).cells 40 (0, 0)), (b3, .cells (insV (amd i m) A c).cells 24 (0, 0))] w135 := hB137
  clear hB137
  have hln : (amd i m).links.length = i.links.length := rfl
  refine then_n ?_
  refine kS ?_
  refine kS ?_
  refine rp 3 ?_
  refine b0 (.S 0 66 2 0 16 <| .nil) [(66, insV (amd i m) A c), (5, .int .i64 0), (4, .pointer (some ⟨b13, 0, none⟩)), (2, .pointer (some ⟨b3, 0, none⟩))] h136 (Kw.nil hB138) fun q139 h140 => ?_
  clear h136
  refine sC 1 67 h140 gok_none (c15 (amd i m) A c w135 (show (amd i m).links.length ≤ 4611686018427387904 by omega) (hr.below hB138.bel)) ?_
  rintro _ w143 ⟨rfl, hb144⟩
  have hB145 := hB138.call hb144
  refine ⟨_, rfl, trivial, fun q141 h142 => ?_⟩
  clear h140 hB138 hb144
  refine b0 (.C 2 8 <| .nil) [(8, .int .i64 (refI (amd i m))), (5, .int .i64 0), (4, .pointer (some ⟨b13, 0, none⟩)), (2, .pointer (some ⟨b3, 0, none⟩))] h142 (Kw.nil hB145) fun q146 h147 => ?_
  clear h142
  refine wpO_end ?_
  refine then_n ?_
  refine kS ?_
  refine rp 2 ?_
  refine b0 (.C 0 68 <| .E 1 69 (.bool (refI (amd i m) != (0 : Int))) <| .nil) [(69, .bool (refI (amd i m) != (0 : Int))), (8, .int .i64 (refI (amd i m))), (5, .int .i64 0), (4, .pointer (some ⟨b13, 0, none⟩)), (2, .pointer (some ⟨b3, 0, none⟩))] h147 (Kw.nil hB145) fun q148 h149 => ?_
  clear h147
  refine wpO_end ?_
  refine then_n ?_
  refine kC 69 (refI (amd i m) != (0 : Int)) h149 (fun hc150 => ?_) (fun hc150 => ?_)
  ·
    refine kS ?_
    refine rp 4 ?_
    refine b0 (.E 0 70 (.agg #[.string (⟨#[]⟩ : ByteArray), .int .i64 0, .string (⟨#[]⟩ : ByteArray), .string (⟨#[]⟩ : ByteArray), .int .i64 0, .string (⟨#[]⟩ : ByteArray), .int .i64 0, .int .i64 0, .int .i64 0, .int .i64 0, .int .i64 0, .bool false, .int .i64 0, .bool false, .bool false, .slice none 0 0]) <| .C 1 71 <| .nil) [(71, .int .i64 (refI (amd i m))), (70, .agg #[.string (⟨#[]⟩ : ByteArray), .int .i64 0, .string (⟨#[]⟩ : ByteArray), .string (⟨#[]⟩ : ByteArray), .int .i64 0, .string (⟨#[]⟩ : ByteArray), .int .i64 0, .int .i64 0, .int .i64 0, .int .i64 0, .int .i64 0, .bool false, .int .i64 0, .bool false, .bool false, .slice none 0 0]), (5, .int .i64 0), (4, .pointer (some ⟨b13, 0, none⟩)), (2, .pointer (some ⟨b3, 0, none⟩))] h149 (Kw.nil hB145) fun q151 h152 => ?_
    clear h149
    refine sW 2 0 0 [(b13, .cells #[.string (⟨#[]⟩ : ByteArray), .int .i64 0, .string (⟨#[]⟩ : ByteArray), .string (⟨#[]⟩ : ByteArray), .int .i64 0, .string (⟨#[]⟩ : ByteArray), .int .i64 0, .int .i64 0, .int .i64 0, .int .i64 0, .int .i64 0, .bool false, .int .i64 0, .bool false, .bool false, .slice none 0 0] 24 (0, 0)), (b8, .cells (amV m).cells 40 (0, 0)), (b3, .cells (insV (amd i m) A c).cells 24 (0, 0))] h152 gok_none hB145 (.inr fun _ _ => trivial) (fun w155 hB156 hT q153 h154 => ?_)
    clear h152 hB145
    clear hT
    refine b0 (.C 3 5 <| .nil) [(5, .int .i64 (refI (amd i m))), (4, .pointer (some ⟨b13, 0, none⟩)), (2, .pointer (some ⟨b3, 0, none⟩))] h154 (Kw.nil hB156) fun q157 h158 => ?_
    clear h154
    refine wpO_end ?_
    refine then_n ?_
    refine c_ret (by kernel_rfl) ?_
    refine then_r ?_
    refine retCT (t := 4) (T := 24) (u := 5) (b := b13) (v := .int .i64 (refI (amd i m))) (vs := [.string (⟨#[]⟩ : ByteArray), .int .i64 0, .string (⟨#[]⟩ : ByteArray), .string (⟨#[]⟩ : ByteArray), .int .i64 0, .string (⟨#[]⟩ : ByteArray), .int .i64 0, .int .i64 0, .int .i64 0, .int .i64 0, .int .i64 0, .bool false, .int .i64 0, .bool false, .bool false, .slice none 0 0]) h158 (by kernel_rfl) (by kernel_rfl) (by kernel_rfl) hB156 0 (by kernel_rfl) (by kernel_rfl) (by kernel_rfl) ?_
    have e159 : appR i m = (zIns, refI (amd i m)) := (cF hc29).trans ((cF hc50).trans ((cF hc62).trans (cT hc150)))
    exact ⟨_, _, by rw [e159]; rfl, fun _ _ => by rw [e159]; exact Rd.nil _ none, hB156.bel⟩
  refine c_skip (by kernel_rfl) ?_
  refine then_n ?_
  refine kS ?_
  refine rp 3 ?_
  refine b0 (.S 0 72 2 0 16 <| .nil) [(72, insV (amd i m) A c), (5, .int .i64 0), (4, .pointer (some ⟨b13, 0, none⟩))] h149 (Kw.nil hB145) fun q160 h161 => ?_
  clear h149
  refine sW 1 0 0 [(b13, .cells (insV (amd i m) A c).cells 24 (0, 0)), (b8, .cells (amV m).cells 40 (0, 0)), (b3, .cells (insV (amd i m) A c).cells 24 (0, 0))] h161 gok_none hB145 (.inr fun _ _ => trivial) (fun w164 hB165 hT q162 h163 => ?_)
  clear h161 hB145
  clear hT
  refine b0 (.C 2 5 <| .nil) [(5, .int .i64 0), (4, .pointer (some ⟨b13, 0, none⟩))] h163 (Kw.nil hB165) fun q166 h167 => ?_
  clear h163
  refine wpO_end ?_
  refine then_n ?_
  refine c_ret (by kernel_rfl) ?_
  refine retCT (t := 4) (T := 24) (u := 5) (b := b13) (v := .int .i64 0) (vs := [.string ((amd i m).ref), .int .i64 ((amd i m).kind), .string ((amd i m).sender), .string ((amd i m).cpty), .int .i64 ((amd i m).side), .string ((amd i m).asset), .int .i64 ((amd i m).qty), .int .i64 ((amd i m).amt), .int .i64 ((amd i m).tday), .int .i64 ((amd i m).sday), .int .i64 ((amd i m).prio), .bool ((amd i m).part), .int .i64 ((amd i m).minlot), .bool ((amd i m).hold), .bool ((amd i m).resv), .slice A ((amd i m).links.length) c]) h167 (by kernel_rfl) (by kernel_rfl) (by kernel_rfl) hB165 0 (by kernel_rfl) (by kernel_rfl) (by kernel_rfl) ?_
  have e168 : appR i m = (amd i m, 0) := (cF hc29).trans ((cF hc50).trans ((cF hc62).trans (cF hc150)))
  exact ⟨_, _, by rw [e168]; rfl, fun _ h => by rw [e168]; exact h, hB165.bel⟩

end Go.Proofs.YtljegdokbifoiaaDoor.Af
