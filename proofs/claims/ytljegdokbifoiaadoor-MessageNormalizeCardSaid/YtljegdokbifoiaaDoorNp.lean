/- Normalize. Short lists of links. -/
import Derived.Test.YtljegdokbifoiaaDoorNs
namespace Go.Proofs.YtljegdokbifoiaaDoor.Af
open Go.RowKit
set_option maxHeartbeats 4000000 in
set_option maxRecDepth 20000 in
theorem c36 (i : Ins) (A : Option Addr) (c : Nat) (base : Nat) (w : World) (hn : i.links.length ≤ 1000) (ho : World.ownsRow w base 66 2 (.slice A i.links.length c) i.links.length (lkc i.links)) : Calls Tryd.prog 36 #[insV i A c] w (fun e w' => ∃ (A' : Option Addr) (c' : Nat), e = .returned (.tuple #[insV (nrmP i).1 A' c', .int .i64 (nrmP i).2]) ∧ World.ownsRow w' w.heap.size 66 2 (.slice A' ((nrmP i).1.links.length) c') ((nrmP i).1.links.length) (lkc (nrmP i).1.links) ∧ Below w.heap.size w w') := by
  refine enter Tryd.func36 (by kernel_rfl) ?_ (by kernel_rfl)
  intro q0 h0
  replace h0 := h0.conv (l' := [(0, insV i A c)]) rfl
  have hB := Bx.refl w
  refine kS ?_
  refine rp 3 ?_
  refine sA 0 1 (fun b => .pointer (some ⟨b, 0, none⟩)) (.cells (insV i A c).cells 29 (0, 0)) h0 gok_none hB (fun _ _ hq => trivial) (fun b3 w4 hB5 hN q1 h2 => ?_)
  have ho6 := own_below ho hN
  clear h0 hB hN
  refine sA 1 2 (fun b => .pointer (some ⟨b, 0, none⟩)) (.cells #[.string (⟨#[]⟩ : ByteArray), .int .i64 0, .string (⟨#[]⟩ : ByteArray), .string (⟨#[]⟩ : ByteArray), .int .i64 0, .string (⟨#[]⟩ : ByteArray), .int .i64 0, .int .i64 0, .int .i64 0, .int .i64 0, .int .i64 0, .bool false, .int .i64 0, .bool false, .bool false, .slice none 0 0] 29 (0, 0)) h2 gok_none hB5 (fun _ _ hq => trivial) (fun b9 w10 hB11 hN q7 h8 => ?_)
  have ho12 := own_below ho6 hN
  clear h2 hB5 hN
  refine b0 (.C 2 3 <| .nil) [(3, .int .i64 0), (2, .pointer (some ⟨b9, 0, none⟩)), (1, .pointer (some ⟨b3, 0, none⟩))] h8 (Kw.nil hB11) fun q13 h14 => ?_
  clear h8
  refine wpO_end ?_
  refine then_n ?_
  refine kS ?_
  refine kS ?_
  refine rp 3 ?_
  refine b0 (.S 0 6 1 0 16 <| .nil) [(6, insV i A c), (3, .int .i64 0), (2, .pointer (some ⟨b9, 0, none⟩)), (1, .pointer (some ⟨b3, 0, none⟩))] h14 (Kw.nil hB11) fun q15 h16 => ?_
  clear h14
  refine sC 1 7 h16 gok_none (c14 i A c w10 (show i.links.length ≤ 4611686018427387904 by omega) (own_le ho12) (own_rr ho12)) ?_
  rintro _ w19 ⟨rfl, hb20⟩
  have hB21 := hB11.call hb20
  have ho22 := own_below ho12 hb20
  refine ⟨_, rfl, trivial, fun q17 h18 => ?_⟩
  clear h16 hB11 hb20
  refine b0 (.C 2 4 <| .nil) [(4, .int .i64 (chkI i)), (3, .int .i64 0), (2, .pointer (some ⟨b9, 0, none⟩)), (1, .pointer (some ⟨b3, 0, none⟩))] h18 (Kw.nil hB21) fun q23 h24 => ?_
  clear h18
  refine wpO_end ?_
  refine then_n ?_
  refine kS ?_
  refine rp 2 ?_
  refine b0 (.C 0 8 <| .E 1 9 (.bool (chkI i != (0 : Int))) <| .nil) [(9, .bool (chkI i != (0 : Int))), (4, .int .i64 (chkI i)), (3, .int .i64 0), (2, .pointer (some ⟨b9, 0, none⟩)), (1, .pointer (some ⟨b3, 0, none⟩))] h24 (Kw.nil hB21) fun q25 h26 => ?_
  clear h24
  refine wpO_end ?_
  refine then_n ?_
  refine kC 9 (chkI i != (0 : Int)) h26 (fun hc27 => ?_) (fun hc27 => ?_)
  ·
    refine kS ?_
    refine rp 4 ?_
    refine b0 (.E 0 10 (.agg #[.string (⟨#[]⟩ : ByteArray), .int .i64 0, .string (⟨#[]⟩ : ByteArray), .string (⟨#[]⟩ : ByteArray), .int .i64 0, .string (⟨#[]⟩ : ByteArray), .int .i64 0, .int .i64 0, .int .i64 0, .int .i64 0, .int .i64 0, .bool false, .int .i64 0, .bool false, .bool false, .slice none 0 0]) <| .C 1 11 <| .nil) [(11, .int .i64 (chkI i)), (10, .agg #[.string (⟨#[]⟩ : ByteArray), .int .i64 0, .string (⟨#[]⟩ : ByteArray), .string (⟨#[]⟩ : ByteArray), .int .i64 0, .string (⟨#[]⟩ : ByteArray), .int .i64 0, .int .i64 0, .int .i64 0, .int .i64 0, .int .i64 0, .bool false, .int .i64 0, .bool false, .bool false, .slice none 0 0]), (3, .int .i64 0), (2, .pointer (some ⟨b9, 0, none⟩)), (1, .pointer (some ⟨b3, 0, none⟩))] h26 (Kw.nil hB21) fun q28 h29 => ?_
    clear h26
    refine sW 2 0 0 [(b9, .cells #[.string (⟨#[]⟩ : ByteArray), .int .i64 0, .string (⟨#[]⟩ : ByteArray), .string (⟨#[]⟩ : ByteArray), .int .i64 0, .string (⟨#[]⟩ : ByteArray), .int .i64 0, .int .i64 0, .int .i64 0, .int .i64 0, .int .i64 0, .bool false, .int .i64 0, .bool false, .bool false, .slice none 0 0] 29 (0, 0)), (b3, .cells (insV i A c).cells 29 (0, 0))] h29 gok_none hB21 (.inr fun _ _ => trivial) (fun w32 hB33 hT q30 h31 => ?_)
    clear h29 hB21
    have ho34 := own_turned ho22 hT (by kernel_rfl)
    clear hT
    refine b0 (.C 3 3 <| .nil) [(3, .int .i64 (chkI i)), (2, .pointer (some ⟨b9, 0, none⟩)), (1, .pointer (some ⟨b3, 0, none⟩))] h31 (Kw.nil hB33) fun q35 h36 => ?_
    clear h31
    refine wpO_end ?_
    refine then_n ?_
    refine c_ret (by kernel_rfl) ?_
    refine then_r ?_
    refine retCT (t := 2) (T := 29) (u := 3) (b := b9) (v := .int .i64 (chkI i)) (vs := [.string (⟨#[]⟩ : ByteArray), .int .i64 0, .string (⟨#[]⟩ : ByteArray), .string (⟨#[]⟩ : ByteArray), .int .i64 0, .string (⟨#[]⟩ : ByteArray), .int .i64 0, .int .i64 0, .int .i64 0, .int .i64 0, .int .i64 0, .bool false, .int .i64 0, .bool false, .bool false, .slice none 0 0]) h36 (by kernel_rfl) (by kernel_rfl) (by kernel_rfl) hB33 0 (by kernel_rfl) (by kernel_rfl) (by kernel_rfl) ?_
    have e37 : nrmP i = (zIns, chkI i) := cT hc27
    exact ⟨_, _, by rw [e37]; rfl, by rw [e37]; exact own_nil _ _ _ _, hB33.bel⟩
  refine c_skip (by kernel_rfl) ?_
  refine then_n ?_
  refine kS ?_
  refine rp 4 ?_
  refine b0 (.S 0 12 1 0 16 <| .nil) [(12, insV i A c), (3, .int .i64 0), (2, .pointer (some ⟨b9, 0, none⟩))] h26 (Kw.nil hB21) fun q38 h39 => ?_
  clear h26
  refine sC 1 13 h39 gok_none (c38 i A c _ w19 (by omega) ho22) ?_
  rintro _ w44 ⟨A42, cp43, rfl, ho48, hb45⟩
  have ho47 := own_base ho48 hB21.bel.size
  have hB46 := hB21.call hb45
  have ho49 := own_below ho22 hb45
  refine ⟨_, rfl, trivial, fun q40 h41 => ?_⟩
  clear h39 hB21 hb45
  refine sA 2 5 (fun b => .pointer (some ⟨b, 0, none⟩)) (.cells #[.string (⟨#[]⟩ : ByteArray), .int .i64 0, .string (⟨#[]⟩ : ByteArray), .string (⟨#[]⟩ : ByteArray), .int .i64 0, .string (⟨#[]⟩ : ByteArray), .int .i64 0, .int .i64 0, .int .i64 0, .int .i64 0, .int .i64 0, .bool false, .int .i64 0, .bool false, .bool false, .slice none 0 0] 29 (0, 0)) h41 gok_none hB46 (fun _ _ hq => trivial) (fun b52 w53 hB54 hN q50 h51 => ?_)
  have ho55 := own_below ho49 hN
  have ho56 := own_below ho47 hN
  clear h41 hB46 hN
  refine sW 3 0 0 [(b52, .cells (insV i A42 cp43).cells 29 (0, 0)), (b9, .cells #[.string (⟨#[]⟩ : ByteArray), .int .i64 0, .string (⟨#[]⟩ : ByteArray), .string (⟨#[]⟩ : ByteArray), .int .i64 0, .string (⟨#[]⟩ : ByteArray), .int .i64 0, .int .i64 0, .int .i64 0, .int .i64 0, .int .i64 0, .bool false, .int .i64 0, .bool false, .bool false, .slice none 0 0] 29 (0, 0)), (b3, .cells (insV i A c).cells 29 (0, 0))] h51 gok_none hB54 (.inr fun _ _ => trivial) (fun w59 hB60 hT q57 h58 => ?_)
  clear h51 hB54
  have ho61 := own_turned ho55 hT (by kernel_rfl)
  have ho62 := own_turned ho56 hT (by kernel_rfl)
  clear hT
  refine wpO_end ?_
  have h63 := h58.keep [(5, .pointer (some ⟨b52, 0, none⟩)), (3, .int .i64 0), (2, .pointer (some ⟨b9, 0, none⟩))] ⟨rfl, rfl, rfl, trivial⟩
  clear h58
  refine then_n ?_
  refine kS ?_
  refine rp 3 ?_
  refine b0 (.C 0 14 <| .L 1 15 0 15 <| .nil) [(15, .slice A42 i.links.length cp43), (5, .pointer (some ⟨b52, 0, none⟩)), (3, .int .i64 0), (2, .pointer (some ⟨b9, 0, none⟩))] h63 (Kw.nil hB60) fun q64 h65 => ?_
  clear h63
  refine sC 2 16 h65 gok_none (c54 i.links A42 cp43 _ w59 (by omega) ho62 (chk_dst i (by simpa using hc27))) ?_
  rintro _ w68 ⟨rfl, ho71, hb69⟩
  have hB70 := hB60.grown ho62 hb69 (Nat.le_refl _) (by kernel_rfl)
  refine ⟨_, rfl, trivial, fun q66 h67 => ?_⟩
  clear h65 hB60 hb69
  refine wpO_end ?_
  have h72 := h67.keep [(5, .pointer (some ⟨b52, 0, none⟩)), (3, .int .i64 0), (2, .pointer (some ⟨b9, 0, none⟩))] ⟨rfl, rfl, rfl, trivial⟩
  clear h67
  refine then_n ?_
  refine kS ?_
  refine rp 3 ?_
  refine b0 (.S 0 17 0 0 16 <| .nil) [(17, insV i A42 cp43), (3, .int .i64 0), (2, .pointer (some ⟨b9, 0, none⟩))] h72 (Kw.nil hB70) fun q73 h74 => ?_
  clear h72
  refine sW 1 1 0 [(b52, .cells (insV i A42 cp43).cells 29 (0, 0)), (b9, .cells (insV i A42 cp43).cells 29 (0, 0)), (b3, .cells (insV i A c).cells 29 (0, 0))] h74 gok_none hB70 (.inr fun _ _ => trivial) (fun w77 hB78 hT q75 h76 => ?_)
  clear h74 hB70
  have ho79 := own_turned ho71 hT (by kernel_rfl)
  clear hT
  refine b0 (.C 2 3 <| .nil) [(3, .int .i64 0), (2, .pointer (some ⟨b9, 0, none⟩))] h76 (Kw.nil hB78) fun q80 h81 => ?_
  clear h76
  refine wpO_end ?_
  refine then_n ?_
  refine c_ret (by kernel_rfl) ?_
  refine retCT (t := 2) (T := 29) (u := 3) (b := b9) (v := .int .i64 0) (vs := [.string i.ref, .int .i64 i.kind, .string i.sender, .string i.cpty, .int .i64 i.side, .string i.asset, .int .i64 i.qty, .int .i64 i.amt, .int .i64 i.tday, .int .i64 i.sday, .int .i64 i.prio, .bool i.part, .int .i64 i.minlot, .bool i.hold, .bool i.resv, .slice A42 i.links.length cp43]) h81 (by kernel_rfl) (by kernel_rfl) (by kernel_rfl) hB78 1 (by kernel_rfl) (by kernel_rfl) (by kernel_rfl) ?_
  have e82 : nrmP i = (wl i (srtL i.links), 0) := cF hc27
  refine ⟨A42, cp43, ?_, ?_, hB78.bel⟩
  · rw [e82]; simp only [insV, wl, srt_len]
  · rw [e82]; simp only [wl, srt_len]; exact ho79

end Go.Proofs.YtljegdokbifoiaaDoor.Af
