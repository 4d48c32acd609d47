/- The chapter's example. No condition. -/
import Derived.Test.YtljegdokbifoiaaDoorMc
namespace Go.Proofs.YtljegdokbifoiaaDoor.Af
open Go.RowKit
def delB (i : Ins) : ByteArray := bif i.side == 0 then i.sender else i.cpty
def recB (i : Ins) : ByteArray := bif i.side == 0 then i.cpty else i.sender

set_option maxHeartbeats 4000000 in
set_option maxRecDepth 20000 in
theorem c16 (i : Ins) (A : Option Addr) (c : Nat) (w : World) : Calls Tryd.prog 16 #[insV i A c] w fun e w' => e = .returned (.string (delB i)) ∧ Below w.heap.size w w' := by
  refine enter Tryd.func16 (by kernel_rfl) ?_ (by kernel_rfl)
  intro q0 h0
  replace h0 := h0.conv (l' := [(0, insV i A c)]) rfl
  have hB := Bx.refl w
  refine kS ?_
  refine rp 2 ?_
  refine sA 0 1 (fun b => .pointer (some ⟨b, 0, none⟩)) (.cells (insV i A c).cells 29 (0, 0)) h0 gok_none hB (fun _ _ hq => trivial) (fun b3 w4 hB5 hN q1 h2 => ?_)
  clear h0 hB hN
  refine b0 (.C 1 2 <| .nil) [(2, .string (⟨#[]⟩ : ByteArray)), (1, .pointer (some ⟨b3, 0, none⟩))] h2 (Kw.nil hB5) fun q6 h7 => ?_
  clear h2
  refine wpO_end ?_
  refine then_n ?_
  refine kS ?_
  refine kS ?_
  refine rp 3 ?_
  refine b0 (.C 0 3 <| .L 1 4 0 4 <| .E 2 5 (.bool (i.side == (0 : Int))) <| .nil) [(5, .bool (i.side == (0 : Int))), (2, .string (⟨#[]⟩ : ByteArray)), (1, .pointer (some ⟨b3, 0, none⟩))] h7 (Kw.nil hB5) fun q8 h9 => ?_
  clear h7
  refine wpO_end ?_
  refine then_n ?_
  refine kC 5 (i.side == (0 : Int)) h9 (fun hc10 => ?_) (fun hc10 => ?_)
  ·
    refine kS ?_
    refine rp 3 ?_
    refine b0 (.C 0 6 <| .L 1 7 0 2 <| .C 2 2 <| .nil) [(2, .string i.sender), (1, .pointer (some ⟨b3, 0, none⟩))] h9 (Kw.nil hB5) fun q11 h12 => ?_
    clear h9
    refine wpO_end ?_
    refine then_n ?_
    refine c_ret (by kernel_rfl) ?_
    refine then_r ?_
    refine ret1 (t := 2) (v := .string i.sender) h12 (by kernel_rfl) (by kernel_rfl) ?_
    exact ⟨ret_eq (congrArg Value.string ((cT hc10)).symm), hB5.bel⟩
  refine c_skip (by kernel_rfl) ?_
  refine then_n ?_
  refine kS ?_
  refine rp 3 ?_
  refine b0 (.C 0 8 <| .L 1 9 0 3 <| .C 2 2 <| .nil) [(2, .string i.cpty)] h9 (Kw.nil hB5) fun q13 h14 => ?_
  clear h9
  refine wpO_end ?_
  refine then_n ?_
  refine c_ret (by kernel_rfl) ?_
  refine ret1 (t := 2) (v := .string i.cpty) h14 (by kernel_rfl) (by kernel_rfl) ?_
  exact ⟨ret_eq (congrArg Value.string ((cF hc10)).symm), hB5.bel⟩

set_option maxHeartbeats 4000000 in
set_option maxRecDepth 20000 in
theorem c17 (i : Ins) (A : Option Addr) (c : Nat) (w : World) : Calls Tryd.prog 17 #[insV i A c] w fun e w' => e = .returned (.string (recB i)) ∧ Below w.heap.size w w' := by
  refine enter Tryd.func17 (by kernel_rfl) ?_ (by kernel_rfl)
  intro q0 h0
  replace h0 := h0.conv (l' := [(0, insV i A c)]) rfl
  have hB := Bx.refl w
  refine kS ?_
  refine rp 2 ?_
  refine sA 0 1 (fun b => .pointer (some ⟨b, 0, none⟩)) (.cells (insV i A c).cells 29 (0, 0)) h0 gok_none hB (fun _ _ hq => trivial) (fun b3 w4 hB5 hN q1 h2 => ?_)
  clear h0 hB hN
  refine b0 (.C 1 2 <| .nil) [(2, .string (⟨#[]⟩ : ByteArray)), (1, .pointer (some ⟨b3, 0, none⟩))] h2 (Kw.nil hB5) fun q6 h7 => ?_
  clear h2
  refine wpO_end ?_
  refine then_n ?_
  refine kS ?_
  refine kS ?_
  refine rp 3 ?_
  refine b0 (.C 0 3 <| .L 1 4 0 4 <| .E 2 5 (.bool (i.side == (0 : Int))) <| .nil) [(5, .bool (i.side == (0 : Int))), (2, .string (⟨#[]⟩ : ByteArray)), (1, .pointer (some ⟨b3, 0, none⟩))] h7 (Kw.nil hB5) fun q8 h9 => ?_
  clear h7
  refine wpO_end ?_
  refine then_n ?_
  refine kC 5 (i.side == (0 : Int)) h9 (fun hc10 => ?_) (fun hc10 => ?_)
  ·
    refine kS ?_
    refine rp 3 ?_
    refine b0 (.C 0 6 <| .L 1 7 0 3 <| .C 2 2 <| .nil) [(2, .string i.cpty), (1, .pointer (some ⟨b3, 0, none⟩))] h9 (Kw.nil hB5) fun q11 h12 => ?_
    clear h9
    refine wpO_end ?_
    refine then_n ?_
    refine c_ret (by kernel_rfl) ?_
    refine then_r ?_
    refine ret1 (t := 2) (v := .string i.cpty) h12 (by kernel_rfl) (by kernel_rfl) ?_
    exact ⟨ret_eq (congrArg Value.string ((cT hc10)).symm), hB5.bel⟩
  refine c_skip (by kernel_rfl) ?_
  refine then_n ?_
  refine kS ?_
  refine rp 3 ?_
  refine b0 (.C 0 8 <| .L 1 9 0 2 <| .C 2 2 <| .nil) [(2, .string i.sender)] h9 (Kw.nil hB5) fun q13 h14 => ?_
  clear h9
  refine wpO_end ?_
  refine then_n ?_
  refine c_ret (by kernel_rfl) ?_
  refine ret1 (t := 2) (v := .string i.sender) h14 (by kernel_rfl) (by kernel_rfl) ?_
  exact ⟨ret_eq (congrArg Value.string ((cF hc10)).symm), hB5.bel⟩

set_option maxHeartbeats 4000000 in
set_option maxRecDepth 20000 in
theorem c18 (i : Ins) (A : Option Addr) (c : Nat) (w : World) : Calls Tryd.prog 18 #[insV i A c] w fun e w' => e = .returned (.bool (isSec i)) ∧ Below w.heap.size w w' := by
  refine enter Tryd.func18 (by kernel_rfl) ?_ (by kernel_rfl)
  intro q0 h0
  replace h0 := h0.conv (l' := [(0, insV i A c)]) rfl
  have hB := Bx.refl w
  refine kS ?_
  refine rp 2 ?_
  refine sA 0 1 (fun b => .pointer (some ⟨b, 0, none⟩)) (.cells (insV i A c).cells 29 (0, 0)) h0 gok_none hB (fun _ _ hq => trivial) (fun b3 w4 hB5 hN q1 h2 => ?_)
  clear h0 hB hN
  refine b0 (.C 1 2 <| .nil) [(2, .bool false), (1, .pointer (some ⟨b3, 0, none⟩))] h2 (Kw.nil hB5) fun q6 h7 => ?_
  clear h2
  refine wpO_end ?_
  refine then_n ?_
  refine kS ?_
  refine rp 3 ?_
  refine b0 (.S 0 3 0 0 16 <| .nil) [(3, insV i A c), (2, .bool false)] h7 (Kw.nil hB5) fun q8 h9 => ?_
  clear h7
  refine sC 1 4 h9 gok_none (c43 i A c w4) ?_
  rintro _ w12 ⟨rfl, hb13⟩
  have hB14 := hB5.call hb13
  refine ⟨_, rfl, trivial, fun q10 h11 => ?_⟩
  clear h9 hB5 hb13
  refine b0 (.C 2 2 <| .nil) [(2, .bool (isSec i))] h11 (Kw.nil hB14) fun q15 h16 => ?_
  clear h11
  refine wpO_end ?_
  refine then_n ?_
  refine c_ret (by kernel_rfl) ?_
  refine ret1 (t := 2) (v := .bool (isSec i)) h16 (by kernel_rfl) (by kernel_rfl) ?_
  exact ⟨ret_eq (rfl), hB14.bel⟩

set_option maxHeartbeats 4000000 in
set_option maxRecDepth 20000 in
theorem c12  (w : World) : Calls Tryd.prog 12 #[] w fun e w' => e = .returned (.bool true) ∧ Below w.heap.size w w' := by
  refine enter Tryd.func12 (by kernel_rfl) ?_ (by kernel_rfl)
  intro q0 h0
  replace h0 := h0.conv (l' := []) rfl
  have hB := Bx.refl w
  refine kS ?_
  refine rp 1 ?_
  refine b0 (.C 0 0 <| .nil) [(0, .bool false)] h0 (Kw.nil hB) fun q1 h2 => ?_
  clear h0
  refine wpO_end ?_
  refine then_n ?_
  refine kS ?_
  refine rp 3 ?_
  refine b0 (.E 0 4 (.agg #[.string (⟨#[68, 49]⟩ : ByteArray), .int .i64 1, .string (⟨#[66, 65, 78, 75, 65]⟩ : ByteArray), .string (⟨#[66, 65, 78, 75, 66]⟩ : ByteArray), .int .i64 0, .string (⟨#[85, 83, 48, 51, 55, 56, 51, 51, 49, 48, 48, 53]⟩ : ByteArray), .int .i64 100, .int .i64 2500000, .int .i64 9811, .int .i64 9815, .int .i64 0, .bool false, .int .i64 0, .bool false, .bool false, .slice none 0 0]) <| .nil) [(4, .agg #[.string (⟨#[68, 49]⟩ : ByteArray), .int .i64 1, .string (⟨#[66, 65, 78, 75, 65]⟩ : ByteArray), .string (⟨#[66, 65, 78, 75, 66]⟩ : ByteArray), .int .i64 0, .string (⟨#[85, 83, 48, 51, 55, 56, 51, 51, 49, 48, 48, 53]⟩ : ByteArray), .int .i64 100, .int .i64 2500000, .int .i64 9811, .int .i64 9815, .int .i64 0, .bool false, .int .i64 0, .bool false, .bool false, .slice none 0 0]), (0, .bool false)] h2 (Kw.nil hB) fun q3 h4 => ?_
  clear h2
  refine sA 1 1 (fun b => .pointer (some ⟨b, 0, none⟩)) (.cells #[.string (⟨#[]⟩ : ByteArray), .int .i64 0, .string (⟨#[]⟩ : ByteArray), .string (⟨#[]⟩ : ByteArray), .int .i64 0, .string (⟨#[]⟩ : ByteArray), .int .i64 0, .int .i64 0, .int .i64 0, .int .i64 0, .int .i64 0, .bool false, .int .i64 0, .bool false, .bool false, .slice none 0 0] 29 (0, 0)) h4 gok_none hB (fun _ _ hq => trivial) (fun b7 w8 hB9 hN q5 h6 => ?_)
  clear h4 hB hN
  refine sW 2 0 0 [(b7, .cells #[.string (⟨#[68, 49]⟩ : ByteArray), .int .i64 1, .string (⟨#[66, 65, 78, 75, 65]⟩ : ByteArray), .string (⟨#[66, 65, 78, 75, 66]⟩ : ByteArray), .int .i64 0, .string (⟨#[85, 83, 48, 51, 55, 56, 51, 51, 49, 48, 48, 53]⟩ : ByteArray), .int .i64 100, .int .i64 2500000, .int .i64 9811, .int .i64 9815, .int .i64 0, .bool false, .int .i64 0, .bool false, .bool false, .slice none 0 0] 29 (0, 0))] h6 gok_none hB9 (.inr fun _ _ => trivial) (fun w12 hB13 hT q10 h11 => ?_)
  clear h6 hB9
  clear hT
  refine wpO_end ?_
  have h14 := h11.keep [(1, .pointer (some ⟨b7, 0, none⟩)), (0, .bool false)] ⟨rfl, rfl, trivial⟩
  clear h11
  refine then_n ?_
  refine kS ?_
  refine rp 3 ?_
  refine b0 (.S 0 5 0 0 16 <| .nil) [(5, .agg #[.string (⟨#[68, 49]⟩ : ByteArray), .int .i64 1, .string (⟨#[66, 65, 78, 75, 65]⟩ : ByteArray), .string (⟨#[66, 65, 78, 75, 66]⟩ : ByteArray), .int .i64 0, .string (⟨#[85, 83, 48, 51, 55, 56, 51, 51, 49, 48, 48, 53]⟩ : ByteArray), .int .i64 100, .int .i64 2500000, .int .i64 9811, .int .i64 9815, .int .i64 0, .bool false, .int .i64 0, .bool false, .bool false, .slice none 0 0]), (1, .pointer (some ⟨b7, 0, none⟩)), (0, .bool false)] h14 (Kw.nil hB13) fun q15 h16 => ?_
  clear h14
  refine sA 1 2 (fun b => .pointer (some ⟨b, 0, none⟩)) (.cells #[.string (⟨#[]⟩ : ByteArray), .int .i64 0, .string (⟨#[]⟩ : ByteArray), .string (⟨#[]⟩ : ByteArray), .int .i64 0, .string (⟨#[]⟩ : ByteArray), .int .i64 0, .int .i64 0, .int .i64 0, .int .i64 0, .int .i64 0, .bool false, .int .i64 0, .bool false, .bool false, .slice none 0 0] 29 (0, 0)) h16 gok_none hB13 (fun _ _ hq => trivial) (fun b19 w20 hB21 hN q17 h18 => ?_)
  clear h16 hB13 hN
  refine sW 2 0 0 [(b19, .cells #[.string (⟨#[68, 49]⟩ : ByteArray), .int .i64 1, .string (⟨#[66, 65, 78, 75, 65]⟩ : ByteArray), .string (⟨#[66, 65, 78, 75, 66]⟩ : ByteArray), .int .i64 0, .string (⟨#[85, 83, 48, 51, 55, 56, 51, 51, 49, 48, 48, 53]⟩ : ByteArray), .int .i64 100, .int .i64 2500000, .int .i64 9811, .int .i64 9815, .int .i64 0, .bool false, .int .i64 0, .bool false, .bool false, .slice none 0 0] 29 (0, 0)), (b7, .cells #[.string (⟨#[68, 49]⟩ : ByteArray), .int .i64 1, .string (⟨#[66, 65, 78, 75, 65]⟩ : ByteArray), .string (⟨#[66, 65, 78, 75, 66]⟩ : ByteArray), .int .i64 0, .string (⟨#[85, 83, 48, 51, 55, 56, 51, 51, 49, 48, 48, 53]⟩ : ByteArray), .int .i64 100, .int .i64 2500000, .int .i64 9811, .int .i64 9815, .int .i64 0, .bool false, .int .i64 0, .bool false, .bool false, .slice none 0 0] 29 (0, 0))] h18 gok_none hB21 (.inr fun _ _ => trivial) (fun w24 hB25 hT q22 h23 => ?_)
  clear h18 hB21
  clear hT
  refine wpO_end ?_
  have h26 := h23.keep [(2, .pointer (some ⟨b19, 0, none⟩)), (1, .pointer (some ⟨b7, 0, none⟩)), (0, .bool false)] ⟨rfl, rfl, rfl, trivial⟩
  clear h23
  refine then_n ?_
  refine kS ?_
  refine rp 2 ?_
  refine b0 (.C 0 6 <| .nil) [(6, .pointer (some ⟨b19, 12, none⟩)), (2, .pointer (some ⟨b19, 0, none⟩)), (1, .pointer (some ⟨b7, 0, none⟩)), (0, .bool false)] h26 (Kw.nil hB25) fun q27 h28 => ?_
  clear h26
  refine sW 1 0 12 [(b19, .cells #[.string (⟨#[68, 49]⟩ : ByteArray), .int .i64 1, .string (⟨#[66, 65, 78, 75, 65]⟩ : ByteArray), .string (⟨#[66, 65, 78, 75, 66]⟩ : ByteArray), .int .i64 0, .string (⟨#[85, 83, 48, 51, 55, 56, 51, 51, 49, 48, 48, 53]⟩ : ByteArray), .int .i64 100, .int .i64 2500000, .int .i64 9811, .int .i64 9815, .int .i64 0, .bool false, .int .i64 10, .bool false, .bool false, .slice none 0 0] 29 (0, 0)), (b7, .cells #[.string (⟨#[68, 49]⟩ : ByteArray), .int .i64 1, .string (⟨#[66, 65, 78, 75, 65]⟩ : ByteArray), .string (⟨#[66, 65, 78, 75, 66]⟩ : ByteArray), .int .i64 0, .string (⟨#[85, 83, 48, 51, 55, 56, 51, 51, 49, 48, 48, 53]⟩ : ByteArray), .int .i64 100, .int .i64 2500000, .int .i64 9811, .int .i64 9815, .int .i64 0, .bool false, .int .i64 0, .bool false, .bool false, .slice none 0 0] 29 (0, 0))] h28 gok_none hB25 (.inr fun _ _ => trivial) (fun w31 hB32 hT q29 h30 => ?_)
  clear h28 hB25
  clear hT
  refine wpO_end ?_
  have h33 := h30.keep [(2, .pointer (some ⟨b19, 0, none⟩)), (1, .pointer (some ⟨b7, 0, none⟩)), (0, .bool false)] ⟨rfl, rfl, rfl, trivial⟩
  clear h30
  refine then_n ?_
  refine kS ?_
  refine rp 3 ?_
  refine b0 (.S 0 7 0 0 16 <| .nil) [(7, .agg #[.string (⟨#[68, 49]⟩ : ByteArray), .int .i64 1, .string (⟨#[66, 65, 78, 75, 65]⟩ : ByteArray), .string (⟨#[66, 65, 78, 75, 66]⟩ : ByteArray), .int .i64 0, .string (⟨#[85, 83, 48, 51, 55, 56, 51, 51, 49, 48, 48, 53]⟩ : ByteArray), .int .i64 100, .int .i64 2500000, .int .i64 9811, .int .i64 9815, .int .i64 0, .bool false, .int .i64 10, .bool false, .bool false, .slice none 0 0]), (2, .pointer (some ⟨b19, 0, none⟩)), (1, .pointer (some ⟨b7, 0, none⟩)), (0, .bool false)] h33 (Kw.nil hB32) fun q34 h35 => ?_
  clear h33
  refine sA 1 3 (fun b => .pointer (some ⟨b, 0, none⟩)) (.cells #[.string (⟨#[]⟩ : ByteArray), .int .i64 0, .string (⟨#[]⟩ : ByteArray), .string (⟨#[]⟩ : ByteArray), .int .i64 0, .string (⟨#[]⟩ : ByteArray), .int .i64 0, .int .i64 0, .int .i64 0, .int .i64 0, .int .i64 0, .bool false, .int .i64 0, .bool false, .bool false, .slice none 0 0] 29 (0, 0)) h35 gok_none hB32 (fun _ _ hq => trivial) (fun b38 w39 hB40 hN q36 h37 => ?_)
  clear h35 hB32 hN
  refine sW 2 0 0 [(b38, .cells #[.string (⟨#[68, 49]⟩ : ByteArray), .int .i64 1, .string (⟨#[66, 65, 78, 75, 65]⟩ : ByteArray), .string (⟨#[66, 65, 78, 75, 66]⟩ : ByteArray), .int .i64 0, .string (⟨#[85, 83, 48, 51, 55, 56, 51, 51, 49, 48, 48, 53]⟩ : ByteArray), .int .i64 100, .int .i64 2500000, .int .i64 9811, .int .i64 9815, .int .i64 0, .bool false, .int .i64 10, .bool false, .bool false, .slice none 0 0] 29 (0, 0)), (b19, .cells #[.string (⟨#[68, 49]⟩ : ByteArray), .int .i64 1, .string (⟨#[66, 65, 78, 75, 65]⟩ : ByteArray), .string (⟨#[66, 65, 78, 75, 66]⟩ : ByteArray), .int .i64 0, .string (⟨#[85, 83, 48, 51, 55, 56, 51, 51, 49, 48, 48, 53]⟩ : ByteArray), .int .i64 100, .int .i64 2500000, .int .i64 9811, .int .i64 9815, .int .i64 0, .bool false, .int .i64 10, .bool false, .bool false, .slice none 0 0] 29 (0, 0)), (b7, .cells #[.string (⟨#[68, 49]⟩ : ByteArray), .int .i64 1, .string (⟨#[66, 65, 78, 75, 65]⟩ : ByteArray), .string (⟨#[66, 65, 78, 75, 66]⟩ : ByteArray), .int .i64 0, .string (⟨#[85, 83, 48, 51, 55, 56, 51, 51, 49, 48, 48, 53]⟩ : ByteArray), .int .i64 100, .int .i64 2500000, .int .i64 9811, .int .i64 9815, .int .i64 0, .bool false, .int .i64 0, .bool false, .bool false, .slice none 0 0] 29 (0, 0))] h37 gok_none hB40 (.inr fun _ _ => trivial) (fun w43 hB44 hT q41 h42 => ?_)
  clear h37 hB40
  clear hT
  refine wpO_end ?_
  have h45 := h42.keep [(3, .pointer (some ⟨b38, 0, none⟩)), (2, .pointer (some ⟨b19, 0, none⟩)), (1, .pointer (some ⟨b7, 0, none⟩)), (0, .bool false)] ⟨rfl, rfl, rfl, rfl, trivial⟩
  clear h42
  refine then_n ?_
  refine kS ?_
  refine rp 2 ?_
  refine b0 (.C 0 8 <| .nil) [(8, .pointer (some ⟨b38, 11, none⟩)), (3, .pointer (some ⟨b38, 0, none⟩)), (2, .pointer (some ⟨b19, 0, none⟩)), (1, .pointer (some ⟨b7, 0, none⟩)), (0, .bool false)] h45 (Kw.nil hB44) fun q46 h47 => ?_
  clear h45
  refine sW 1 0 11 [(b38, .cells #[.string (⟨#[68, 49]⟩ : ByteArray), .int .i64 1, .string (⟨#[66, 65, 78, 75, 65]⟩ : ByteArray), .string (⟨#[66, 65, 78, 75, 66]⟩ : ByteArray), .int .i64 0, .string (⟨#[85, 83, 48, 51, 55, 56, 51, 51, 49, 48, 48, 53]⟩ : ByteArray), .int .i64 100, .int .i64 2500000, .int .i64 9811, .int .i64 9815, .int .i64 0, .bool true, .int .i64 10, .bool false, .bool false, .slice none 0 0] 29 (0, 0)), (b19, .cells #[.string (⟨#[68, 49]⟩ : ByteArray), .int .i64 1, .string (⟨#[66, 65, 78, 75, 65]⟩ : ByteArray), .string (⟨#[66, 65, 78, 75, 66]⟩ : ByteArray), .int .i64 0, .string (⟨#[85, 83, 48, 51, 55, 56, 51, 51, 49, 48, 48, 53]⟩ : ByteArray), .int .i64 100, .int .i64 2500000, .int .i64 9811, .int .i64 9815, .int .i64 0, .bool false, .int .i64 10, .bool false, .bool false, .slice none 0 0] 29 (0, 0)), (b7, .cells #[.string (⟨#[68, 49]⟩ : ByteArray), .int .i64 1, .string (⟨#[66, 65, 78, 75, 65]⟩ : ByteArray), .string (⟨#[66, 65, 78, 75, 66]⟩ : ByteArray), .int .i64 0, .string (⟨#[85, 83, 48, 51, 55, 56, 51, 51, 49, 48, 48, 53]⟩ : ByteArray), .int .i64 100, .int .i64 2500000, .int .i64 9811, .int .i64 9815, .int .i64 0, .bool false, .int .i64 0, .bool false, .bool false, .slice none 0 0] 29 (0, 0))] h47 gok_none hB44 (.inr fun _ _ => trivial) (fun w50 hB51 hT q48 h49 => ?_)
  clear h47 hB44
  clear hT
  refine wpO_end ?_
  have h52 := h49.keep [(3, .pointer (some ⟨b38, 0, none⟩)), (2, .pointer (some ⟨b19, 0, none⟩)), (1, .pointer (some ⟨b7, 0, none⟩)), (0, .bool false)] ⟨rfl, rfl, rfl, rfl, trivial⟩
  clear h49
  refine then_n ?_
  refine kS ?_
  refine rp 23 ?_
  refine b0 (.S 0 9 2 0 16 <| .nil) [(9, .agg #[.string (⟨#[68, 49]⟩ : ByteArray), .int .i64 1, .string (⟨#[66, 65, 78, 75, 65]⟩ : ByteArray), .string (⟨#[66, 65, 78, 75, 66]⟩ : ByteArray), .int .i64 0, .string (⟨#[85, 83, 48, 51, 55, 56, 51, 51, 49, 48, 48, 53]⟩ : ByteArray), .int .i64 100, .int .i64 2500000, .int .i64 9811, .int .i64 9815, .int .i64 0, .bool false, .int .i64 0, .bool false, .bool false, .slice none 0 0]), (3, .pointer (some ⟨b38, 0, none⟩)), (2, .pointer (some ⟨b19, 0, none⟩)), (1, .pointer (some ⟨b7, 0, none⟩)), (0, .bool false)] h52 (Kw.nil hB51) fun q53 h54 => ?_
  clear h52
  refine sC 1 10 h54 gok_none (c14 (⟨(⟨#[68, 49]⟩ : ByteArray), 1, (⟨#[66, 65, 78, 75, 65]⟩ : ByteArray), (⟨#[66, 65, 78, 75, 66]⟩ : ByteArray), 0, (⟨#[85, 83, 48, 51, 55, 56, 51, 51, 49, 48, 48, 53]⟩ : ByteArray), 100, 2500000, 9811, 9815, 0, false, 0, false, false, []⟩ : Ins) none 0 w50 (Nat.zero_le _) (Nat.zero_le _) (Rd.nil _ _)) ?_
  rintro _ w57 ⟨rfl, hb58⟩
  have hB59 := hB51.call hb58
  refine ⟨_, rfl, trivial, fun q55 h56 => ?_⟩
  clear h54 hB51 hb58
  refine eE 2 11 (.binOp .eql 26 (.tmp 10) (.const (.int .i64 0)) 26) 4 (.bool (chkI (⟨(⟨#[68, 49]⟩ : ByteArray), 1, (⟨#[66, 65, 78, 75, 65]⟩ : ByteArray), (⟨#[66, 65, 78, 75, 66]⟩ : ByteArray), 0, (⟨#[85, 83, 48, 51, 55, 56, 51, 51, 49, 48, 48, 53]⟩ : ByteArray), 100, 2500000, 9811, 9815, 0, false, 0, false, false, []⟩ : Ins) == (0 : Int))) h56 fun q60 h61 => ?_
  clear h56
  have h62 := h61.keep [(11, .bool true), (10, .int .i64 (chkI (⟨(⟨#[68, 49]⟩ : ByteArray), 1, (⟨#[66, 65, 78, 75, 65]⟩ : ByteArray), (⟨#[66, 65, 78, 75, 66]⟩ : ByteArray), 0, (⟨#[85, 83, 48, 51, 55, 56, 51, 51, 49, 48, 48, 53]⟩ : ByteArray), 100, 2500000, 9811, 9815, 0, false, 0, false, false, []⟩ : Ins))), (9, .agg #[.string (⟨#[68, 49]⟩ : ByteArray), .int .i64 1, .string (⟨#[66, 65, 78, 75, 65]⟩ : ByteArray), .string (⟨#[66, 65, 78, 75, 66]⟩ : ByteArray), .int .i64 0, .string (⟨#[85, 83, 48, 51, 55, 56, 51, 51, 49, 48, 48, 53]⟩ : ByteArray), .int .i64 100, .int .i64 2500000, .int .i64 9811, .int .i64 9815, .int .i64 0, .bool false, .int .i64 0, .bool false, .bool false, .slice none 0 0]), (3, .pointer (some ⟨b38, 0, none⟩)), (2, .pointer (some ⟨b19, 0, none⟩)), (1, .pointer (some ⟨b7, 0, none⟩)), (0, .bool false)] ⟨by kernel_rfl, rfl, rfl, rfl, rfl, rfl, rfl, trivial⟩
  clear h61
  refine b1 12 (rfl : true = true) (.C 3 12 <| .S 4 13 1 0 16 <| .nil) [(13, .agg #[.string (⟨#[68, 49]⟩ : ByteArray), .int .i64 1, .string (⟨#[66, 65, 78, 75, 65]⟩ : ByteArray), .string (⟨#[66, 65, 78, 75, 66]⟩ : ByteArray), .int .i64 0, .string (⟨#[85, 83, 48, 51, 55, 56, 51, 51, 49, 48, 48, 53]⟩ : ByteArray), .int .i64 100, .int .i64 2500000, .int .i64 9811, .int .i64 9815, .int .i64 0, .bool false, .int .i64 10, .bool false, .bool false, .slice none 0 0]), (12, .bool true), (3, .pointer (some ⟨b38, 0, none⟩)), (1, .pointer (some ⟨b7, 0, none⟩)), (0, .bool false)] h62 (Kw.nil hB59) fun q63 h64 => ?_
  clear h62
  refine sC 5 14 (g := (some (3, true))) h64 (g1 12 (rfl : true = true)) (c14 (⟨(⟨#[68, 49]⟩ : ByteArray), 1, (⟨#[66, 65, 78, 75, 65]⟩ : ByteArray), (⟨#[66, 65, 78, 75, 66]⟩ : ByteArray), 0, (⟨#[85, 83, 48, 51, 55, 56, 51, 51, 49, 48, 48, 53]⟩ : ByteArray), 100, 2500000, 9811, 9815, 0, false, 10, false, false, []⟩ : Ins) none 0 w57 (Nat.zero_le _) (Nat.zero_le _) (Rd.nil _ _)) ?_
  rintro _ w67 ⟨rfl, hb68⟩
  have hB69 := hB59.call hb68
  refine ⟨_, rfl, trivial, fun q65 h66 => ?_⟩
  clear h64 hB59 hb68
  refine eG 6 15 (.binOp .eql 26 (.tmp 14) (.const (.int .i64 2)) 26) 4 (3, true) (.bool (chkI (⟨(⟨#[68, 49]⟩ : ByteArray), 1, (⟨#[66, 65, 78, 75, 65]⟩ : ByteArray), (⟨#[66, 65, 78, 75, 66]⟩ : ByteArray), 0, (⟨#[85, 83, 48, 51, 55, 56, 51, 51, 49, 48, 48, 53]⟩ : ByteArray), 100, 2500000, 9811, 9815, 0, false, 10, false, false, []⟩ : Ins) == (2 : Int))) (g1 12 (rfl : true = true)) h66 fun q70 h71 => ?_
  clear h66
  have h72 := h71.keep [(15, .bool true), (14, .int .i64 (chkI (⟨(⟨#[68, 49]⟩ : ByteArray), 1, (⟨#[66, 65, 78, 75, 65]⟩ : ByteArray), (⟨#[66, 65, 78, 75, 66]⟩ : ByteArray), 0, (⟨#[85, 83, 48, 51, 55, 56, 51, 51, 49, 48, 48, 53]⟩ : ByteArray), 100, 2500000, 9811, 9815, 0, false, 10, false, false, []⟩ : Ins))), (13, .agg #[.string (⟨#[68, 49]⟩ : ByteArray), .int .i64 1, .string (⟨#[66, 65, 78, 75, 65]⟩ : ByteArray), .string (⟨#[66, 65, 78, 75, 66]⟩ : ByteArray), .int .i64 0, .string (⟨#[85, 83, 48, 51, 55, 56, 51, 51, 49, 48, 48, 53]⟩ : ByteArray), .int .i64 100, .int .i64 2500000, .int .i64 9811, .int .i64 9815, .int .i64 0, .bool false, .int .i64 10, .bool false, .bool false, .slice none 0 0]), (12, .bool true), (3, .pointer (some ⟨b38, 0, none⟩)), (1, .pointer (some ⟨b7, 0, none⟩)), (0, .bool false)] ⟨by kernel_rfl, rfl, rfl, rfl, rfl, rfl, rfl, trivial⟩
  clear h71
  refine b1 17 (rfl : true = true) (.E 7 16 (.bool true) <| .C 8 17 <| .S 9 18 0 0 16 <| .nil) [(18, .agg #[.string (⟨#[68, 49]⟩ : ByteArray), .int .i64 1, .string (⟨#[66, 65, 78, 75, 65]⟩ : ByteArray), .string (⟨#[66, 65, 78, 75, 66]⟩ : ByteArray), .int .i64 0, .string (⟨#[85, 83, 48, 51, 55, 56, 51, 51, 49, 48, 48, 53]⟩ : ByteArray), .int .i64 100, .int .i64 2500000, .int .i64 9811, .int .i64 9815, .int .i64 0, .bool true, .int .i64 10, .bool false, .bool false, .slice none 0 0]), (17, .bool true), (1, .pointer (some ⟨b7, 0, none⟩)), (0, .bool false)] h72 (Kw.nil hB69) fun q73 h74 => ?_
  clear h72
  refine sC 10 19 (g := (some (8, true))) h74 (g1 17 (rfl : true = true)) (c14 (⟨(⟨#[68, 49]⟩ : ByteArray), 1, (⟨#[66, 65, 78, 75, 65]⟩ : ByteArray), (⟨#[66, 65, 78, 75, 66]⟩ : ByteArray), 0, (⟨#[85, 83, 48, 51, 55, 56, 51, 51, 49, 48, 48, 53]⟩ : ByteArray), 100, 2500000, 9811, 9815, 0, true, 10, false, false, []⟩ : Ins) none 0 w67 (Nat.zero_le _) (Nat.zero_le _) (Rd.nil _ _)) ?_
  rintro _ w77 ⟨rfl, hb78⟩
  have hB79 := hB69.call hb78
  refine ⟨_, rfl, trivial, fun q75 h76 => ?_⟩
  clear h74 hB69 hb78
  refine eG 11 20 (.binOp .eql 26 (.tmp 19) (.const (.int .i64 0)) 26) 4 (8, true) (.bool (chkI (⟨(⟨#[68, 49]⟩ : ByteArray), 1, (⟨#[66, 65, 78, 75, 65]⟩ : ByteArray), (⟨#[66, 65, 78, 75, 66]⟩ : ByteArray), 0, (⟨#[85, 83, 48, 51, 55, 56, 51, 51, 49, 48, 48, 53]⟩ : ByteArray), 100, 2500000, 9811, 9815, 0, true, 10, false, false, []⟩ : Ins) == (0 : Int))) (g1 17 (rfl : true = true)) h76 fun q80 h81 => ?_
  clear h76
  have h82 := h81.keep [(20, .bool true), (19, .int .i64 (chkI (⟨(⟨#[68, 49]⟩ : ByteArray), 1, (⟨#[66, 65, 78, 75, 65]⟩ : ByteArray), (⟨#[66, 65, 78, 75, 66]⟩ : ByteArray), 0, (⟨#[85, 83, 48, 51, 55, 56, 51, 51, 49, 48, 48, 53]⟩ : ByteArray), 100, 2500000, 9811, 9815, 0, true, 10, false, false, []⟩ : Ins))), (18, .agg #[.string (⟨#[68, 49]⟩ : ByteArray), .int .i64 1, .string (⟨#[66, 65, 78, 75, 65]⟩ : ByteArray), .string (⟨#[66, 65, 78, 75, 66]⟩ : ByteArray), .int .i64 0, .string (⟨#[85, 83, 48, 51, 55, 56, 51, 51, 49, 48, 48, 53]⟩ : ByteArray), .int .i64 100, .int .i64 2500000, .int .i64 9811, .int .i64 9815, .int .i64 0, .bool true, .int .i64 10, .bool false, .bool false, .slice none 0 0]), (17, .bool true), (1, .pointer (some ⟨b7, 0, none⟩)), (0, .bool false)] ⟨by kernel_rfl, rfl, rfl, rfl, rfl, rfl, trivial⟩
  clear h81
  refine b1 22 (rfl : true = true) (.E 12 21 (.bool true) <| .C 13 22 <| .S 14 23 2 0 16 <| .nil) [(23, .agg #[.string (⟨#[68, 49]⟩ : ByteArray), .int .i64 1, .string (⟨#[66, 65, 78, 75, 65]⟩ : ByteArray), .string (⟨#[66, 65, 78, 75, 66]⟩ : ByteArray), .int .i64 0, .string (⟨#[85, 83, 48, 51, 55, 56, 51, 51, 49, 48, 48, 53]⟩ : ByteArray), .int .i64 100, .int .i64 2500000, .int .i64 9811, .int .i64 9815, .int .i64 0, .bool false, .int .i64 0, .bool false, .bool false, .slice none 0 0]), (22, .bool true), (1, .pointer (some ⟨b7, 0, none⟩)), (0, .bool false)] h82 (Kw.nil hB79) fun q83 h84 => ?_
  clear h82
  refine sC 15 24 (g := (some (13, true))) h84 (g1 22 (rfl : true = true)) (c16 (⟨(⟨#[68, 49]⟩ : ByteArray), 1, (⟨#[66, 65, 78, 75, 65]⟩ : ByteArray), (⟨#[66, 65, 78, 75, 66]⟩ : ByteArray), 0, (⟨#[85, 83, 48, 51, 55, 56, 51, 51, 49, 48, 48, 53]⟩ : ByteArray), 100, 2500000, 9811, 9815, 0, false, 0, false, false, []⟩ : Ins) none 0 w77) ?_
  rintro _ w87 ⟨rfl, hb88⟩
  have hB89 := hB79.call hb88
  refine ⟨_, rfl, trivial, fun q85 h86 => ?_⟩
  clear h84 hB79 hb88
  refine eG 16 25 (.binOp .eql 9 (.tmp 24) (.const (.string { data := #[66, 65, 78, 75, 65] })) 9) 4 (13, true) (.bool ((delB (⟨(⟨#[68, 49]⟩ : ByteArray), 1, (⟨#[66, 65, 78, 75, 65]⟩ : ByteArray), (⟨#[66, 65, 78, 75, 66]⟩ : ByteArray), 0, (⟨#[85, 83, 48, 51, 55, 56, 51, 51, 49, 48, 48, 53]⟩ : ByteArray), 100, 2500000, 9811, 9815, 0, false, 0, false, false, []⟩ : Ins)).toList == (⟨#[66, 65, 78, 75, 65]⟩ : ByteArray).toList)) (g1 22 (rfl : true = true)) h86 fun q90 h91 => ?_
  clear h86
  have h92 := h91.keep [(25, .bool true), (24, .string (delB (⟨(⟨#[68, 49]⟩ : ByteArray), 1, (⟨#[66, 65, 78, 75, 65]⟩ : ByteArray), (⟨#[66, 65, 78, 75, 66]⟩ : ByteArray), 0, (⟨#[85, 83, 48, 51, 55, 56, 51, 51, 49, 48, 48, 53]⟩ : ByteArray), 100, 2500000, 9811, 9815, 0, false, 0, false, false, []⟩ : Ins))), (23, .agg #[.string (⟨#[68, 49]⟩ : ByteArray), .int .i64 1, .string (⟨#[66, 65, 78, 75, 65]⟩ : ByteArray), .string (⟨#[66, 65, 78, 75, 66]⟩ : ByteArray), .int .i64 0, .string (⟨#[85, 83, 48, 51, 55, 56, 51, 51, 49, 48, 48, 53]⟩ : ByteArray), .int .i64 100, .int .i64 2500000, .int .i64 9811, .int .i64 9815, .int .i64 0, .bool false, .int .i64 0, .bool false, .bool false, .slice none 0 0]), (22, .bool true), (1, .pointer (some ⟨b7, 0, none⟩)), (0, .bool false)] ⟨by kernel_rfl, rfl, rfl, rfl, rfl, rfl, trivial⟩
  clear h91
  refine b1 27 (rfl : true = true) (.E 17 26 (.bool true) <| .C 18 27 <| .S 19 28 2 0 16 <| .nil) [(28, .agg #[.string (⟨#[68, 49]⟩ : ByteArray), .int .i64 1, .string (⟨#[66, 65, 78, 75, 65]⟩ : ByteArray), .string (⟨#[66, 65, 78, 75, 66]⟩ : ByteArray), .int .i64 0, .string (⟨#[85, 83, 48, 51, 55, 56, 51, 51, 49, 48, 48, 53]⟩ : ByteArray), .int .i64 100, .int .i64 2500000, .int .i64 9811, .int .i64 9815, .int .i64 0, .bool false, .int .i64 0, .bool false, .bool false, .slice none 0 0]), (27, .bool true), (0, .bool false)] h92 (Kw.nil hB89) fun q93 h94 => ?_
  clear h92
  refine sC 20 29 (g := (some (18, true))) h94 (g1 27 (rfl : true = true)) (c18 (⟨(⟨#[68, 49]⟩ : ByteArray), 1, (⟨#[66, 65, 78, 75, 65]⟩ : ByteArray), (⟨#[66, 65, 78, 75, 66]⟩ : ByteArray), 0, (⟨#[85, 83, 48, 51, 55, 56, 51, 51, 49, 48, 48, 53]⟩ : ByteArray), 100, 2500000, 9811, 9815, 0, false, 0, false, false, []⟩ : Ins) none 0 w87) ?_
  rintro _ w97 ⟨rfl, hb98⟩
  have hB99 := hB89.call hb98
  refine ⟨_, rfl, trivial, fun q95 h96 => ?_⟩
  clear h94 hB89 hb98
  have h100 := h96.keep [(29, .bool true), (28, .agg #[.string (⟨#[68, 49]⟩ : ByteArray), .int .i64 1, .string (⟨#[66, 65, 78, 75, 65]⟩ : ByteArray), .string (⟨#[66, 65, 78, 75, 66]⟩ : ByteArray), .int .i64 0, .string (⟨#[85, 83, 48, 51, 55, 56, 51, 51, 49, 48, 48, 53]⟩ : ByteArray), .int .i64 100, .int .i64 2500000, .int .i64 9811, .int .i64 9815, .int .i64 0, .bool false, .int .i64 0, .bool false, .bool false, .slice none 0 0]), (27, .bool true), (0, .bool false)] ⟨by kernel_rfl, rfl, rfl, rfl, trivial⟩
  clear h96
  refine b0 (.E 21 30 (.bool true) <| .C 22 0 <| .nil) [(0, .bool true)] h100 (Kw.nil hB99) fun q101 h102 => ?_
  clear h100
  refine wpO_end ?_
  refine then_n ?_
  refine c_ret (by kernel_rfl) ?_
  refine ret1 (t := 0) (v := .bool true) h102 (by kernel_rfl) (by kernel_rfl) ?_
  exact ⟨ret_eq (rfl), hB99.bel⟩

end Go.Proofs.YtljegdokbifoiaaDoor.Af
