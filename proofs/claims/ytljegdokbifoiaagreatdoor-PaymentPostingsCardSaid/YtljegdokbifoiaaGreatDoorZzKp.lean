/- The chapter's example. No condition. The postings of a payment, as the program and the reference lay them. No condition. The postings of a payment, the walks. Short lists of links. -/
import Derived.Test.YtljegdokbifoiaaGreatDoorZzKq
import Derived.Test.YtljegdokbifoiaaGreatDoorZzOw
namespace Go.Proofs.YtljegdokbifoiaaGreatDoor.Af
open Go.RowKit
set_option maxHeartbeats 4000000 in
set_option maxRecDepth 20000 in
theorem known  (w : World) : Calls Tryz.prog 14 #[] w fun e w' => e = .returned (.bool true) ∧ Below w.heap.size w w' := by
  refine enter Tryz.func14 (by kernel_rfl) ?_ (by kernel_rfl)
  intro q0 h0
  replace h0 := h0.conv (l' := []) rfl
  have hB := Bx.refl w
  refine kS ?_
  refine rp 1 ?_
  refine b0 (.C 0 0 <| .nil) [(0, .bool false)] h0 (Kw.nil hB) fun q1 h2 => ?_
  clear h0
  refine wpO_end ?_
  refine then_n ?_
  refine kS ?_
  refine rp 3 ?_
  refine b0 (.E 0 9 (.agg #[.string (⟨#[65, 49]⟩ : ByteArray), .int .i64 0, .string (⟨#[66, 65, 78, 75, 65]⟩ : ByteArray), .string (⟨#[66, 65, 78, 75, 66]⟩ : ByteArray), .int .i64 0, .string (⟨#[67, 65, 83, 72]⟩ : ByteArray), .int .i64 0, .int .i64 50, .int .i64 0, .int .i64 9816, .int .i64 0, .bool false, .int .i64 0, .bool false, .bool false, .slice none 0 0]) <| .nil) [(9, .agg #[.string (⟨#[65, 49]⟩ : ByteArray), .int .i64 0, .string (⟨#[66, 65, 78, 75, 65]⟩ : ByteArray), .string (⟨#[66, 65, 78, 75, 66]⟩ : ByteArray), .int .i64 0, .string (⟨#[67, 65, 83, 72]⟩ : ByteArray), .int .i64 0, .int .i64 50, .int .i64 0, .int .i64 9816, .int .i64 0, .bool false, .int .i64 0, .bool false, .bool false, .slice none 0 0]), (0, .bool false)] h2 (Kw.nil hB) fun q3 h4 => ?_
  clear h2
  refine sA 1 1 (fun b => .pointer (some ⟨b, 0, none⟩)) (.cells #[.string (⟨#[]⟩ : ByteArray), .int .i64 0, .string (⟨#[]⟩ : ByteArray), .string (⟨#[]⟩ : ByteArray), .int .i64 0, .string (⟨#[]⟩ : ByteArray), .int .i64 0, .int .i64 0, .int .i64 0, .int .i64 0, .int .i64 0, .bool false, .int .i64 0, .bool false, .bool false, .slice none 0 0] 30 (0, 0)) h4 gok_none hB (fun _ _ hq => trivial) (fun b7 w8 hB9 hN q5 h6 => ?_)
  clear h4 hB hN
  refine sW 2 0 0 [(b7, .cells #[.string (⟨#[65, 49]⟩ : ByteArray), .int .i64 0, .string (⟨#[66, 65, 78, 75, 65]⟩ : ByteArray), .string (⟨#[66, 65, 78, 75, 66]⟩ : ByteArray), .int .i64 0, .string (⟨#[67, 65, 83, 72]⟩ : ByteArray), .int .i64 0, .int .i64 50, .int .i64 0, .int .i64 9816, .int .i64 0, .bool false, .int .i64 0, .bool false, .bool false, .slice none 0 0] 30 (0, 0))] h6 gok_none hB9 (.inr fun _ _ => trivial) (fun w12 hB13 hT q10 h11 => ?_)
  clear h6 hB9
  clear hT
  refine wpO_end ?_
  have h14 := h11.keep [(1, .pointer (some ⟨b7, 0, none⟩)), (0, .bool false)] ⟨rfl, rfl, trivial⟩
  clear h11
  refine then_n ?_
  refine kS ?_
  refine rp 3 ?_
  refine b0 (.E 0 10 (.agg #[.string (⟨#[66, 49]⟩ : ByteArray), .int .i64 0, .string (⟨#[66, 65, 78, 75, 66]⟩ : ByteArray), .string (⟨#[66, 65, 78, 75, 65]⟩ : ByteArray), .int .i64 0, .string (⟨#[67, 65, 83, 72]⟩ : ByteArray), .int .i64 0, .int .i64 30, .int .i64 0, .int .i64 9816, .int .i64 0, .bool false, .int .i64 0, .bool false, .bool false, .slice none 0 0]) <| .nil) [(10, .agg #[.string (⟨#[66, 49]⟩ : ByteArray), .int .i64 0, .string (⟨#[66, 65, 78, 75, 66]⟩ : ByteArray), .string (⟨#[66, 65, 78, 75, 65]⟩ : ByteArray), .int .i64 0, .string (⟨#[67, 65, 83, 72]⟩ : ByteArray), .int .i64 0, .int .i64 30, .int .i64 0, .int .i64 9816, .int .i64 0, .bool false, .int .i64 0, .bool false, .bool false, .slice none 0 0]), (1, .pointer (some ⟨b7, 0, none⟩)), (0, .bool false)] h14 (Kw.nil hB13) fun q15 h16 => ?_
  clear h14
  refine sA 1 2 (fun b => .pointer (some ⟨b, 0, none⟩)) (.cells #[.string (⟨#[]⟩ : ByteArray), .int .i64 0, .string (⟨#[]⟩ : ByteArray), .string (⟨#[]⟩ : ByteArray), .int .i64 0, .string (⟨#[]⟩ : ByteArray), .int .i64 0, .int .i64 0, .int .i64 0, .int .i64 0, .int .i64 0, .bool false, .int .i64 0, .bool false, .bool false, .slice none 0 0] 30 (0, 0)) h16 gok_none hB13 (fun _ _ hq => trivial) (fun b19 w20 hB21 hN q17 h18 => ?_)
  clear h16 hB13 hN
  refine sW 2 0 0 [(b19, .cells #[.string (⟨#[66, 49]⟩ : ByteArray), .int .i64 0, .string (⟨#[66, 65, 78, 75, 66]⟩ : ByteArray), .string (⟨#[66, 65, 78, 75, 65]⟩ : ByteArray), .int .i64 0, .string (⟨#[67, 65, 83, 72]⟩ : ByteArray), .int .i64 0, .int .i64 30, .int .i64 0, .int .i64 9816, .int .i64 0, .bool false, .int .i64 0, .bool false, .bool false, .slice none 0 0] 30 (0, 0)), (b7, .cells #[.string (⟨#[65, 49]⟩ : ByteArray), .int .i64 0, .string (⟨#[66, 65, 78, 75, 65]⟩ : ByteArray), .string (⟨#[66, 65, 78, 75, 66]⟩ : ByteArray), .int .i64 0, .string (⟨#[67, 65, 83, 72]⟩ : ByteArray), .int .i64 0, .int .i64 50, .int .i64 0, .int .i64 9816, .int .i64 0, .bool false, .int .i64 0, .bool false, .bool false, .slice none 0 0] 30 (0, 0))] h18 gok_none hB21 (.inr fun _ _ => trivial) (fun w24 hB25 hT q22 h23 => ?_)
  clear h18 hB21
  clear hT
  refine wpO_end ?_
  have h26 := h23.keep [(2, .pointer (some ⟨b19, 0, none⟩)), (1, .pointer (some ⟨b7, 0, none⟩)), (0, .bool false)] ⟨rfl, rfl, rfl, trivial⟩
  clear h23
  refine then_n ?_
  refine kS ?_
  refine rp 9 ?_
  refine b0 (.S 0 12 1 0 16 <| .S 1 13 0 0 16 <| .nil) [(13, .agg #[.string (⟨#[66, 49]⟩ : ByteArray), .int .i64 0, .string (⟨#[66, 65, 78, 75, 66]⟩ : ByteArray), .string (⟨#[66, 65, 78, 75, 65]⟩ : ByteArray), .int .i64 0, .string (⟨#[67, 65, 83, 72]⟩ : ByteArray), .int .i64 0, .int .i64 30, .int .i64 0, .int .i64 9816, .int .i64 0, .bool false, .int .i64 0, .bool false, .bool false, .slice none 0 0]), (12, .agg #[.string (⟨#[65, 49]⟩ : ByteArray), .int .i64 0, .string (⟨#[66, 65, 78, 75, 65]⟩ : ByteArray), .string (⟨#[66, 65, 78, 75, 66]⟩ : ByteArray), .int .i64 0, .string (⟨#[67, 65, 83, 72]⟩ : ByteArray), .int .i64 0, .int .i64 50, .int .i64 0, .int .i64 9816, .int .i64 0, .bool false, .int .i64 0, .bool false, .bool false, .slice none 0 0]), (2, .pointer (some ⟨b19, 0, none⟩)), (1, .pointer (some ⟨b7, 0, none⟩)), (0, .bool false)] h26 (Kw.nil hB25) fun q27 h28 => ?_
  clear h26
  refine sA 2 14 (fun b => .slice (some ⟨b, 0, none⟩) 2 2) (.cells #[.string (⟨#[65, 49]⟩ : ByteArray), .int .i64 0, .string (⟨#[66, 65, 78, 75, 65]⟩ : ByteArray), .string (⟨#[66, 65, 78, 75, 66]⟩ : ByteArray), .int .i64 0, .string (⟨#[67, 65, 83, 72]⟩ : ByteArray), .int .i64 0, .int .i64 50, .int .i64 0, .int .i64 9816, .int .i64 0, .bool false, .int .i64 0, .bool false, .bool false, .slice none 0 0, .string (⟨#[66, 49]⟩ : ByteArray), .int .i64 0, .string (⟨#[66, 65, 78, 75, 66]⟩ : ByteArray), .string (⟨#[66, 65, 78, 75, 65]⟩ : ByteArray), .int .i64 0, .string (⟨#[67, 65, 83, 72]⟩ : ByteArray), .int .i64 0, .int .i64 30, .int .i64 0, .int .i64 9816, .int .i64 0, .bool false, .int .i64 0, .bool false, .bool false, .slice none 0 0] 30 (0, 0)) h28 gok_none hB25 (fun _ _ hq => trivial) (fun b31 w32 hB33 hN q29 h30 => ?_)
  clear h28 hB25 hN
  refine sC 3 15 h30 gok_none (known1 b31 w32 (hB33.at 0 rfl)) ?_
  rintro _ w40 ⟨ad36, cp37, rfl, he38, he39, hb41⟩
  have hB42 := hB33.call hb41
  refine ⟨_, rfl, trivial, fun q34 h35 => ?_⟩
  clear h30 hB33 hb41
  have hE43 := El.of_blk (hB42.at 2 rfl)
  have hE44 := El.of_blk (hB42.at 1 rfl)
  have hbl45 := hB42.bel
  have hB46 := Bx.refl w40
  clear hB42
  refine b0 (.C 4 11 <| .E 5 16 (.slice (some ad36) 2 cp37) <| .E 6 17 (.int .i64 0) <| .C 7 3 <| .C 8 4 <| .nil) [(4, .int .i64 0), (3, .slice (some ad36) 2 cp37), (2, .pointer (some ⟨b19, 0, none⟩)), (1, .pointer (some ⟨b7, 0, none⟩)), (0, .bool false)] h35 (Kw.nil hB46) fun q47 h48 => ?_
  clear h35
  refine wpO_end ?_
  refine then_n ?_
  refine kS ?_
  refine rp 9 ?_
  refine b0 (.Y 0 19 0 0 16 <| .Y 1 20 1 0 16 <| .nil) [(20, .agg #[.string (⟨#[65, 49]⟩ : ByteArray), .int .i64 0, .string (⟨#[66, 65, 78, 75, 65]⟩ : ByteArray), .string (⟨#[66, 65, 78, 75, 66]⟩ : ByteArray), .int .i64 0, .string (⟨#[67, 65, 83, 72]⟩ : ByteArray), .int .i64 0, .int .i64 50, .int .i64 0, .int .i64 9816, .int .i64 0, .bool false, .int .i64 0, .bool false, .bool false, .slice none 0 0]), (19, .agg #[.string (⟨#[66, 49]⟩ : ByteArray), .int .i64 0, .string (⟨#[66, 65, 78, 75, 66]⟩ : ByteArray), .string (⟨#[66, 65, 78, 75, 65]⟩ : ByteArray), .int .i64 0, .string (⟨#[67, 65, 83, 72]⟩ : ByteArray), .int .i64 0, .int .i64 30, .int .i64 0, .int .i64 9816, .int .i64 0, .bool false, .int .i64 0, .bool false, .bool false, .slice none 0 0]), (4, .int .i64 0), (3, .slice (some ad36) 2 cp37), (2, .pointer (some ⟨b19, 0, none⟩)), (1, .pointer (some ⟨b7, 0, none⟩)), (0, .bool false)] h48 (((Kw.nil hB46).cons (hE43.below hB46.bel)).cons (hE44.below hB46.bel)) fun q49 h50 => ?_
  clear h48
  refine sA 2 21 (fun b => .slice (some ⟨b, 0, none⟩) 2 2) (.cells #[.string (⟨#[66, 49]⟩ : ByteArray), .int .i64 0, .string (⟨#[66, 65, 78, 75, 66]⟩ : ByteArray), .string (⟨#[66, 65, 78, 75, 65]⟩ : ByteArray), .int .i64 0, .string (⟨#[67, 65, 83, 72]⟩ : ByteArray), .int .i64 0, .int .i64 30, .int .i64 0, .int .i64 9816, .int .i64 0, .bool false, .int .i64 0, .bool false, .bool false, .slice none 0 0, .string (⟨#[65, 49]⟩ : ByteArray), .int .i64 0, .string (⟨#[66, 65, 78, 75, 65]⟩ : ByteArray), .string (⟨#[66, 65, 78, 75, 66]⟩ : ByteArray), .int .i64 0, .string (⟨#[67, 65, 83, 72]⟩ : ByteArray), .int .i64 0, .int .i64 50, .int .i64 0, .int .i64 9816, .int .i64 0, .bool false, .int .i64 0, .bool false, .bool false, .slice none 0 0] 30 (0, 0)) h50 gok_none hB46 (fun _ _ hq => trivial) (fun b53 w54 hB55 hN q51 h52 => ?_)
  clear h50 hB46 hN
  refine sC 3 22 h52 gok_none (known2 b53 w54 (hB55.at 0 rfl)) ?_
  rintro _ w62 ⟨ad58, cp59, rfl, he60, he61, hb63⟩
  have hB64 := hB55.call hb63
  refine ⟨_, rfl, trivial, fun q56 h57 => ?_⟩
  clear h52 hB55 hb63
  have hE65 := hE43.below hB64.bel
  have hE66 := hE44.below hB64.bel
  have he67 := he38.below hB64.bel
  have he68 := he39.below hB64.bel
  have hbl69 := (hbl45.trans (hB64.bel.mono hbl45.size))
  have hB70 := Bx.refl w62
  clear hB64
  refine b0 (.C 4 18 <| .E 5 23 (.slice (some ad58) 2 cp59) <| .E 6 24 (.int .i64 0) <| .C 7 5 <| .C 8 6 <| .nil) [(6, .int .i64 0), (5, .slice (some ad58) 2 cp59), (4, .int .i64 0), (3, .slice (some ad36) 2 cp37), (2, .pointer (some ⟨b19, 0, none⟩)), (1, .pointer (some ⟨b7, 0, none⟩)), (0, .bool false)] h57 (Kw.nil hB70) fun q71 h72 => ?_
  clear h57
  refine wpO_end ?_
  refine then_n ?_
  refine kS ?_
  refine rp 9 ?_
  refine b0 (.Y 0 26 0 0 16 <| .Y 1 27 1 0 16 <| .nil) [(27, .agg #[.string (⟨#[66, 49]⟩ : ByteArray), .int .i64 0, .string (⟨#[66, 65, 78, 75, 66]⟩ : ByteArray), .string (⟨#[66, 65, 78, 75, 65]⟩ : ByteArray), .int .i64 0, .string (⟨#[67, 65, 83, 72]⟩ : ByteArray), .int .i64 0, .int .i64 30, .int .i64 0, .int .i64 9816, .int .i64 0, .bool false, .int .i64 0, .bool false, .bool false, .slice none 0 0]), (26, .agg #[.string (⟨#[65, 49]⟩ : ByteArray), .int .i64 0, .string (⟨#[66, 65, 78, 75, 65]⟩ : ByteArray), .string (⟨#[66, 65, 78, 75, 66]⟩ : ByteArray), .int .i64 0, .string (⟨#[67, 65, 83, 72]⟩ : ByteArray), .int .i64 0, .int .i64 50, .int .i64 0, .int .i64 9816, .int .i64 0, .bool false, .int .i64 0, .bool false, .bool false, .slice none 0 0]), (6, .int .i64 0), (5, .slice (some ad58) 2 cp59), (4, .int .i64 0), (3, .slice (some ad36) 2 cp37), (0, .bool false)] h72 (((Kw.nil hB70).cons (hE66.below hB70.bel)).cons (hE65.below hB70.bel)) fun q73 h74 => ?_
  clear h72
  refine sA 2 28 (fun b => .slice (some ⟨b, 0, none⟩) 2 2) (.cells #[.string (⟨#[65, 49]⟩ : ByteArray), .int .i64 0, .string (⟨#[66, 65, 78, 75, 65]⟩ : ByteArray), .string (⟨#[66, 65, 78, 75, 66]⟩ : ByteArray), .int .i64 0, .string (⟨#[67, 65, 83, 72]⟩ : ByteArray), .int .i64 0, .int .i64 50, .int .i64 0, .int .i64 9816, .int .i64 0, .bool false, .int .i64 0, .bool false, .bool false, .slice none 0 0, .string (⟨#[66, 49]⟩ : ByteArray), .int .i64 0, .string (⟨#[66, 65, 78, 75, 66]⟩ : ByteArray), .string (⟨#[66, 65, 78, 75, 65]⟩ : ByteArray), .int .i64 0, .string (⟨#[67, 65, 83, 72]⟩ : ByteArray), .int .i64 0, .int .i64 30, .int .i64 0, .int .i64 9816, .int .i64 0, .bool false, .int .i64 0, .bool false, .bool false, .slice none 0 0] 30 (0, 0)) h74 gok_none hB70 (fun _ _ hq => trivial) (fun b77 w78 hB79 hN q75 h76 => ?_)
  clear h74 hB70 hN
  refine sC 3 29 h76 gok_none (known3 b77 w78 (hB79.at 0 rfl)) ?_
  rintro _ w86 ⟨ad82, cp83, rfl, he84, hb87⟩
  have hB88 := hB79.call hb87
  refine ⟨_, rfl, trivial, fun q80 h81 => ?_⟩
  clear h76 hB79 hb87
  have hE89 := hE65.below hB88.bel
  have hE90 := hE66.below hB88.bel
  have he91 := he67.below hB88.bel
  have he92 := he68.below hB88.bel
  have he93 := he60.below hB88.bel
  have he94 := he61.below hB88.bel
  have hbl95 := (hbl69.trans (hB88.bel.mono hbl69.size))
  have hB96 := Bx.refl w86
  clear hB88
  refine b0 (.C 4 25 <| .E 5 30 (.slice (some ad82) 1 cp83) <| .E 6 31 (.int .i64 0) <| .C 7 7 <| .C 8 8 <| .nil) [(8, .int .i64 0), (7, .slice (some ad82) 1 cp83), (6, .int .i64 0), (5, .slice (some ad58) 2 cp59), (4, .int .i64 0), (3, .slice (some ad36) 2 cp37), (0, .bool false)] h81 (Kw.nil hB96) fun q97 h98 => ?_
  clear h81
  refine wpO_end ?_
  refine then_n ?_
  refine kS ?_
  refine rp 61 ?_
  refine b1 34 (rfl : true = true) (.C 0 32 <| .E 1 33 (.bool true) <| .C 2 34 <| .C 3 35 <| .E 4 36 (.int .i64 2) <| .E 5 37 (.bool true) <| .E 6 38 (.bool true) <| .C 7 39 <| .nil) [(39, .bool true), (8, .int .i64 0), (7, .slice (some ad82) 1 cp83), (6, .int .i64 0), (5, .slice (some ad58) 2 cp59), (3, .slice (some ad36) 2 cp37), (0, .bool false)] h98 (Kw.nil hB96) fun q99 h100 => ?_
  clear h98
  refine b1 39 (rfl : true = true) (.C 8 40 <| .nil) [(40, .slice (some ad36) 2 cp37), (39, .bool true), (8, .int .i64 0), (7, .slice (some ad82) 1 cp83), (6, .int .i64 0), (5, .slice (some ad58) 2 cp59), (3, .slice (some ad36) 2 cp37), (0, .bool false)] h100 (Kw.nil hB96) fun q101 h102 => ?_
  clear h100
  refine eG 9 41 (.indexAddr 31 (.tmp 40) (.const (.int .i64 0))) 0 (7, true) (.pointer (some ((ad36.add (0 * 2)).add 0))) (g1 39 (rfl : true = true)) h102 (hr := r_index0 (n := 2) (c := cp37) (kd := .i64) (by kernel_rfl) (by kernel_rfl) (by decide) (by kernel_rfl)) fun q103 h104 => ?_
  clear h102
  refine b1 39 (rfl : true = true) (.F 10 42 0 0 1 <| .X 11 43 0 1 <| .E 12 44 (.bool true) <| .E 13 45 (.bool true) <| .C 14 46 <| .nil) [(46, .bool true), (8, .int .i64 0), (7, .slice (some ad82) 1 cp83), (6, .int .i64 0), (5, .slice (some ad58) 2 cp59), (3, .slice (some ad36) 2 cp37), (0, .bool false)] h104 ((Kw.nil hB96).cons (he91.below hB96.bel)) fun q105 h106 => ?_
  clear h104
  refine b1 46 (rfl : true = true) (.C 15 47 <| .nil) [(47, .slice (some ad36) 2 cp37), (46, .bool true), (8, .int .i64 0), (7, .slice (some ad82) 1 cp83), (6, .int .i64 0), (5, .slice (some ad58) 2 cp59), (0, .bool false)] h106 (Kw.nil hB96) fun q107 h108 => ?_
  clear h106
  refine eG 16 48 (.indexAddr 31 (.tmp 47) (.const (.int .i64 1))) 0 (14, true) (.pointer (some ((ad36.add (1 * 2)).add 0))) (g1 46 (rfl : true = true)) h108 (hr := r_index0 (n := 2) (c := cp37) (kd := .i64) (by kernel_rfl) (by kernel_rfl) (by decide) (by kernel_rfl)) fun q109 h110 => ?_
  clear h108
  refine b1 46 (rfl : true = true) (.F 17 49 0 0 1 <| .X 18 50 0 1 <| .E 19 51 (.bool true) <| .E 20 52 (.bool true) <| .C 21 53 <| .nil) [(53, .bool true), (8, .int .i64 0), (7, .slice (some ad82) 1 cp83), (6, .int .i64 0), (5, .slice (some ad58) 2 cp59), (0, .bool false)] h110 ((Kw.nil hB96).cons (he92.below hB96.bel)) fun q111 h112 => ?_
  clear h110
  refine b1 53 (rfl : true = true) (.C 22 54 <| .E 23 55 (.bool true) <| .E 24 56 (.bool true) <| .C 25 57 <| .nil) [(57, .bool true), (8, .int .i64 0), (7, .slice (some ad82) 1 cp83), (5, .slice (some ad58) 2 cp59), (0, .bool false)] h112 (Kw.nil hB96) fun q113 h114 => ?_
  clear h112
  refine b1 57 (rfl : true = true) (.C 26 58 <| .E 27 59 (.int .i64 2) <| .E 28 60 (.bool true) <| .E 29 61 (.bool true) <| .C 30 62 <| .nil) [(62, .bool true), (8, .int .i64 0), (7, .slice (some ad82) 1 cp83), (5, .slice (some ad58) 2 cp59), (0, .bool false)] h114 (Kw.nil hB96) fun q115 h116 => ?_
  clear h114
  refine b1 62 (rfl : true = true) (.C 31 63 <| .nil) [(63, .slice (some ad58) 2 cp59), (62, .bool true), (8, .int .i64 0), (7, .slice (some ad82) 1 cp83), (5, .slice (some ad58) 2 cp59), (0, .bool false)] h116 (Kw.nil hB96) fun q117 h118 => ?_
  clear h116
  refine eG 32 64 (.indexAddr 31 (.tmp 63) (.const (.int .i64 0))) 0 (30, true) (.pointer (some ((ad58.add (0 * 2)).add 0))) (g1 62 (rfl : true = true)) h118 (hr := r_index0 (n := 2) (c := cp59) (kd := .i64) (by kernel_rfl) (by kernel_rfl) (by decide) (by kernel_rfl)) fun q119 h120 => ?_
  clear h118
  refine b1 62 (rfl : true = true) (.F 33 65 0 0 1 <| .X 34 66 0 1 <| .E 35 67 (.bool true) <| .E 36 68 (.bool true) <| .C 37 69 <| .nil) [(69, .bool true), (8, .int .i64 0), (7, .slice (some ad82) 1 cp83), (5, .slice (some ad58) 2 cp59), (0, .bool false)] h120 ((Kw.nil hB96).cons (he93.below hB96.bel)) fun q121 h122 => ?_
  clear h120
  refine b1 69 (rfl : true = true) (.C 38 70 <| .nil) [(70, .slice (some ad58) 2 cp59), (69, .bool true), (8, .int .i64 0), (7, .slice (some ad82) 1 cp83), (0, .bool false)] h122 (Kw.nil hB96) fun q123 h124 => ?_
  clear h122
  refine eG 39 71 (.indexAddr 31 (.tmp 70) (.const (.int .i64 1))) 0 (37, true) (.pointer (some ((ad58.add (1 * 2)).add 0))) (g1 69 (rfl : true = true)) h124 (hr := r_index0 (n := 2) (c := cp59) (kd := .i64) (by kernel_rfl) (by kernel_rfl) (by decide) (by kernel_rfl)) fun q125 h126 => ?_
  clear h124
  refine b1 69 (rfl : true = true) (.F 40 72 0 0 1 <| .X 41 73 0 1 <| .E 42 74 (.bool true) <| .E 43 75 (.bool true) <| .C 44 76 <| .nil) [(76, .bool true), (8, .int .i64 0), (7, .slice (some ad82) 1 cp83), (0, .bool false)] h126 ((Kw.nil hB96).cons (he94.below hB96.bel)) fun q127 h128 => ?_
  clear h126
  refine b1 76 (rfl : true = true) (.C 45 77 <| .E 46 78 (.bool true) <| .E 47 79 (.bool true) <| .C 48 80 <| .nil) [(80, .bool true), (7, .slice (some ad82) 1 cp83), (0, .bool false)] h128 (Kw.nil hB96) fun q129 h130 => ?_
  clear h128
  refine b1 80 (rfl : true = true) (.C 49 81 <| .E 50 82 (.int .i64 1) <| .E 51 83 (.bool true) <| .E 52 84 (.bool true) <| .C 53 85 <| .nil) [(85, .bool true), (7, .slice (some ad82) 1 cp83), (0, .bool false)] h130 (Kw.nil hB96) fun q131 h132 => ?_
  clear h130
  refine b1 85 (rfl : true = true) (.C 54 86 <| .nil) [(86, .slice (some ad82) 1 cp83), (85, .bool true), (0, .bool false)] h132 (Kw.nil hB96) fun q133 h134 => ?_
  clear h132
  refine eG 55 87 (.indexAddr 38 (.tmp 86) (.const (.int .i64 0))) 0 (53, true) (.pointer (some ((ad82.add (0 * 3)).add 0))) (g1 85 (rfl : true = true)) h134 (hr := r_index0 (n := 1) (c := cp83) (kd := .i64) (by kernel_rfl) (by kernel_rfl) (by decide) (by kernel_rfl)) fun q135 h136 => ?_
  clear h134
  refine b1 85 (rfl : true = true) (.Y 56 88 0 0 3 <| .E 57 89 (.agg #[.string (⟨#[66, 65, 78, 75, 65]⟩ : ByteArray), .string (⟨#[66, 65, 78, 75, 66]⟩ : ByteArray), .int .i64 20]) <| .nil) [(89, .agg #[.string (⟨#[66, 65, 78, 75, 65]⟩ : ByteArray), .string (⟨#[66, 65, 78, 75, 66]⟩ : ByteArray), .int .i64 20]), (88, .agg #[.string (⟨#[66, 65, 78, 75, 65]⟩ : ByteArray), .string (⟨#[66, 65, 78, 75, 66]⟩ : ByteArray), .int .i64 20]), (85, .bool true), (0, .bool false)] h136 ((Kw.nil hB96).cons (he84.below hB96.bel)) fun q137 h138 => ?_
  clear h136
  refine eG 58 90 (.binOp .eql 46 (.tmp 88) (.tmp 89) 46) 4 (53, true) (.bool (pairEq (⟨#[66, 65, 78, 75, 65]⟩ : ByteArray) (⟨#[66, 65, 78, 75, 66]⟩ : ByteArray) (⟨#[66, 65, 78, 75, 65]⟩ : ByteArray) (⟨#[66, 65, 78, 75, 66]⟩ : ByteArray) 20 20)) (g1 85 (rfl : true = true)) h138 (hr := r_eqlA _ (by kernel_rfl) (by kernel_rfl) (by kernel_rfl) (eq46 (⟨#[66, 65, 78, 75, 65]⟩ : ByteArray) (⟨#[66, 65, 78, 75, 66]⟩ : ByteArray) (⟨#[66, 65, 78, 75, 65]⟩ : ByteArray) (⟨#[66, 65, 78, 75, 66]⟩ : ByteArray) 20 20 _)) fun q139 h140 => ?_
  clear h138
  have h141 := h140.keep [(90, .bool true), (89, .agg #[.string (⟨#[66, 65, 78, 75, 65]⟩ : ByteArray), .string (⟨#[66, 65, 78, 75, 66]⟩ : ByteArray), .int .i64 20]), (88, .agg #[.string (⟨#[66, 65, 78, 75, 65]⟩ : ByteArray), .string (⟨#[66, 65, 78, 75, 66]⟩ : ByteArray), .int .i64 20]), (85, .bool true), (0, .bool false)] ⟨look_bool rfl (by kernel_rfl), rfl, rfl, rfl, rfl, trivial⟩
  clear h140
  refine b0 (.E 59 91 (.bool true) <| .C 60 0 <| .nil) [(0, .bool true)] h141 (Kw.nil hB96) fun q142 h143 => ?_
  clear h141
  refine wpO_end ?_
  refine then_n ?_
  refine c_ret (by kernel_rfl) ?_
  refine ret1 (t := 0) (v := .bool true) h143 (by kernel_rfl) (by kernel_rfl) ?_
  exact ⟨ret_eq (rfl), (hbl95.trans (hB96.bel.mono hbl95.size))⟩

end Go.Proofs.YtljegdokbifoiaaGreatDoor.Af

namespace Go.Proofs.YtljegdokbifoiaaGreatDoor.Af
open Go.RowKit

theorem pay_zero' {i : Ins} (h : (payE i != (0 : Int)) = false) : payE i = 0 := by simpa using h
theorem ne_self (a : ByteArray) : (a.toList != a.toList) = false := by
  unfold bne
  rw [show (a.toList == a.toList) = true from beq_self_eq_true _]
  rfl
def csh : ByteArray := ⟨#[67, 65, 83, 72]⟩
def pO (i : Ins) (k : Nat) : ByteArray := if k = 0 then i.sender else i.cpty
def pK (i : Ins) (k : Nat) : Int := if k = 0 then (bif i.resv then 1 else 0) else 0
def pD (i : Ins) (k : Nat) : Int := if k = 0 then IntKind.i64.wrap (0 - i.amt) else i.amt
/-- The k-th posting. -/
def pC (i : Ins) (k : Nat) : List Value := [.string (pO i k), .int .i64 (pK i k), .string csh, .int .i64 (pD i k)]
theorem lt2 {k : Nat} (h : k < 2) : k = 0 ∨ k = 1 := by omega
theorem pC_of {i : Ins} {w : World} {b T : Nat} {cs : Array Value} (h : w.heap[b]? = some (.cells cs T (0, 0))) (he : cs.toList = pC i 0 ++ pC i 1) : ∀ k < 2, El w ((⟨b, 0, none⟩ : Addr).add (k * 4)) (pC i k) := by
  have hr := Rd.of_blk h
  rw [he] at hr
  intro k hk
  have hv : ∀ j u, (pC i k)[j]? = some u → (pC i 0 ++ pC i 1)[k * 4 + j]? = some u := by
    intro j u hj
    rcases lt2 hk with rfl | rfl
    · rw [Nat.zero_mul, Nat.zero_add, List.getElem?_append_left (List.getElem?_eq_some_iff.1 hj).1]; exact hj
    · rw [Nat.one_mul, List.getElem?_append_right (by show 4 ≤ _; omega)]; exact (by rw [show 4 + j - (pC i 0).length = j by show 4 + j - 4 = j; omega]; exact hj)
  obtain ⟨ad, e1, hE⟩ := hr.el (k * 4) (pC i k) (by simp [pC]) hv
  cases e1
  exact hE
theorem neg_sum {i : Ins} (h : PayOK i) : (IntKind.i64.wrap (pD i 0 + pD i 1) != (0 : Int)) = false := by
  have h1 := h.lo
  have h2 := h.hi
  have e1 : IntKind.i64.wrap (0 - i.amt) = - i.amt := by rw [wrap_i64 (by omega) (by omega)]; omega
  have e2 : pD i 0 + pD i 1 = 0 := by
    unfold pD
    rw [if_pos rfl, if_neg (by omega), e1]
    omega
  rw [e2]
  rfl
end Go.Proofs.YtljegdokbifoiaaGreatDoor.Af

namespace Go.Proofs.YtljegdokbifoiaaGreatDoor.Af
open Go.RowKit
set_option maxHeartbeats 4000000 in
set_option maxRecDepth 20000 in
theorem p32e (i : Ins) (A : Option Addr) (c : Nat) (w : World) (hn : i.links.length ≤ 4611686018427387904) (hc : i.links.length ≤ c) (hr : Rd w A (lkc i.links)) (hE : (payE i != (0 : Int)) = true) : Calls Tryz.prog 32 #[insV i A c] w (fun e w' => e = .returned (.tuple #[.slice none 0 0, .int .i64 (payE i)]) ∧ Below w.heap.size w w') := by
  refine enter Tryz.func32 (by kernel_rfl) ?_ (by kernel_rfl)
  intro q0 h0
  replace h0 := h0.conv (l' := [(0, insV i A c)]) rfl
  have hB := Bx.refl w
  refine kS ?_
  refine rp 3 ?_
  refine sA 0 1 (fun b => .pointer (some ⟨b, 0, none⟩)) (.cells (insV i A c).cells 30 (0, 0)) h0 gok_none hB (fun _ _ hq => trivial) (fun b3 w4 hB5 hN q1 h2 => ?_)
  clear h0 hB hN
  refine b0 (.C 1 2 <| .C 2 3 <| .nil) [(3, .int .i64 0), (2, .slice none 0 0), (1, .pointer (some ⟨b3, 0, none⟩))] h2 (Kw.nil hB5) fun q6 h7 => ?_
  clear h2
  refine wpO_end ?_
  refine then_n ?_
  refine kS ?_
  refine kS ?_
  refine rp 3 ?_
  refine b0 (.S 0 6 0 0 16 <| .nil) [(6, insV i A c), (3, .int .i64 0), (2, .slice none 0 0), (1, .pointer (some ⟨b3, 0, none⟩))] h7 (Kw.nil hB5) fun q8 h9 => ?_
  clear h7
  refine sC 1 7 h9 gok_none (p52 i A c w4 (show i.links.length ≤ 4611686018427387904 by omega) (by omega) (hr.below hB5.bel)) ?_
  rintro _ w12 ⟨rfl, hb13⟩
  have hB14 := hB5.call hb13
  refine ⟨_, rfl, trivial, fun q10 h11 => ?_⟩
  clear h9 hB5 hb13
  refine b0 (.C 2 4 <| .nil) [(4, .int .i64 (payE i)), (3, .int .i64 0), (2, .slice none 0 0), (1, .pointer (some ⟨b3, 0, none⟩))] h11 (Kw.nil hB14) fun q15 h16 => ?_
  clear h11
  refine wpO_end ?_
  refine then_n ?_
  refine kS ?_
  refine rp 2 ?_
  refine b0 (.C 0 8 <| .E 1 9 (.bool (payE i != (0 : Int))) <| .nil) [(9, .bool (payE i != (0 : Int))), (4, .int .i64 (payE i)), (3, .int .i64 0), (2, .slice none 0 0), (1, .pointer (some ⟨b3, 0, none⟩))] h16 (Kw.nil hB14) fun q17 h18 => ?_
  clear h16
  refine wpO_end ?_
  refine then_n ?_
  refine kC 9 (payE i != (0 : Int)) h18 (fun _ => ?_) (fun e19 => Bool.noConfusion (e19.symm.trans (hE)))
  refine kS ?_
  refine rp 3 ?_
  refine b0 (.C 0 10 <| .C 1 2 <| .C 2 3 <| .nil) [(3, .int .i64 (payE i)), (2, .slice none 0 0), (1, .pointer (some ⟨b3, 0, none⟩))] h18 (Kw.nil hB14) fun q20 h21 => ?_
  clear h18
  refine wpO_end ?_
  refine then_n ?_
  refine c_ret (by kernel_rfl) ?_
  refine then_r ?_
  refine ret2 (t := 2) (u := 3) (v := .slice none 0 0) (v' := .int .i64 (payE i)) h21 (by kernel_rfl) (by kernel_rfl) (by kernel_rfl) ?_
  exact ⟨rfl, hB14.bel⟩

set_option maxHeartbeats 4000000 in
set_option maxRecDepth 20000 in
theorem p32o (i : Ins) (A : Option Addr) (c : Nat) (w : World) (hn : i.links.length ≤ 4611686018427387904) (hc : i.links.length ≤ c) (hr : Rd w A (lkc i.links)) (hE : (payE i != (0 : Int)) = false) : Calls Tryz.prog 32 #[insV i A c] w (fun e w' => ∃ ad : Addr, e = .returned (.tuple #[.slice (some ad) 2 2, .int .i64 0]) ∧ (∀ k < 2, El w' (ad.add (k * 4)) (pC i k)) ∧ Below w.heap.size w w') := by
  refine enter Tryz.func32 (by kernel_rfl) ?_ (by kernel_rfl)
  intro q0 h0
  replace h0 := h0.conv (l' := [(0, insV i A c)]) rfl
  have hB := Bx.refl w
  refine kS ?_
  refine rp 3 ?_
  refine sA 0 1 (fun b => .pointer (some ⟨b, 0, none⟩)) (.cells (insV i A c).cells 30 (0, 0)) h0 gok_none hB (fun _ _ hq => trivial) (fun b3 w4 hB5 hN q1 h2 => ?_)
  clear h0 hB hN
  refine b0 (.C 1 2 <| .C 2 3 <| .nil) [(3, .int .i64 0), (2, .slice none 0 0), (1, .pointer (some ⟨b3, 0, none⟩))] h2 (Kw.nil hB5) fun q6 h7 => ?_
  clear h2
  refine wpO_end ?_
  refine then_n ?_
  refine kS ?_
  refine kS ?_
  refine rp 3 ?_
  refine b0 (.S 0 6 0 0 16 <| .nil) [(6, insV i A c), (3, .int .i64 0), (2, .slice none 0 0), (1, .pointer (some ⟨b3, 0, none⟩))] h7 (Kw.nil hB5) fun q8 h9 => ?_
  clear h7
  refine sC 1 7 h9 gok_none (p52 i A c w4 (show i.links.length ≤ 4611686018427387904 by omega) (by omega) (hr.below hB5.bel)) ?_
  rintro _ w12 ⟨rfl, hb13⟩
  have hB14 := hB5.call hb13
  refine ⟨_, rfl, trivial, fun q10 h11 => ?_⟩
  clear h9 hB5 hb13
  refine b0 (.C 2 4 <| .nil) [(4, .int .i64 (payE i)), (3, .int .i64 0), (2, .slice none 0 0), (1, .pointer (some ⟨b3, 0, none⟩))] h11 (Kw.nil hB14) fun q15 h16 => ?_
  clear h11
  refine wpO_end ?_
  refine then_n ?_
  refine kS ?_
  refine rp 2 ?_
  refine b0 (.C 0 8 <| .E 1 9 (.bool (payE i != (0 : Int))) <| .nil) [(9, .bool (payE i != (0 : Int))), (4, .int .i64 (payE i)), (3, .int .i64 0), (2, .slice none 0 0), (1, .pointer (some ⟨b3, 0, none⟩))] h16 (Kw.nil hB14) fun q17 h18 => ?_
  clear h16
  refine wpO_end ?_
  refine then_n ?_
  refine kC 9 (payE i != (0 : Int)) h18 (fun e19 => Bool.noConfusion (e19.symm.trans (hE))) (fun _ => ?_)
  refine c_skip (by kernel_rfl) ?_
  refine then_n ?_
  refine kS ?_
  refine rp 5 ?_
  refine b0 (.C 0 11 <| .L 1 12 0 2 <| .E 2 13 (.agg #[.string i.sender, .int .i64 0, .string (⟨#[67, 65, 83, 72]⟩ : ByteArray)]) <| .nil) [(13, .agg #[.string i.sender, .int .i64 0, .string (⟨#[67, 65, 83, 72]⟩ : ByteArray)]), (3, .int .i64 0), (2, .slice none 0 0), (1, .pointer (some ⟨b3, 0, none⟩))] h18 (Kw.nil hB14) fun q20 h21 => ?_
  clear h18
  refine sA 3 5 (fun b => .pointer (some ⟨b, 0, none⟩)) (.cells #[.string (⟨#[]⟩ : ByteArray), .int .i64 0, .string (⟨#[]⟩ : ByteArray)] 87 (0, 0)) h21 gok_none hB14 (fun _ _ hq => trivial) (fun b24 w25 hB26 hN q22 h23 => ?_)
  clear h21 hB14 hN
  refine sW 4 0 0 [(b24, .cells #[.string i.sender, .int .i64 0, .string (⟨#[67, 65, 83, 72]⟩ : ByteArray)] 87 (0, 0)), (b3, .cells (insV i A c).cells 30 (0, 0))] h23 gok_none hB26 (.inr fun _ _ => trivial) (fun w29 hB30 hT q27 h28 => ?_)
  clear h23 hB26
  clear hT
  refine wpO_end ?_
  have h31 := h28.keep [(5, .pointer (some ⟨b24, 0, none⟩)), (3, .int .i64 0), (2, .slice none 0 0), (1, .pointer (some ⟨b3, 0, none⟩))] ⟨rfl, rfl, rfl, rfl, trivial⟩
  clear h28
  refine then_n ?_
  refine kS ?_
  refine kS ?_
  refine rp 2 ?_
  refine b0 (.C 0 14 <| .L 1 15 1 14 <| .nil) [(15, .bool i.resv), (5, .pointer (some ⟨b24, 0, none⟩)), (3, .int .i64 0), (2, .slice none 0 0), (1, .pointer (some ⟨b3, 0, none⟩))] h31 (Kw.nil hB30) fun q32 h33 => ?_
  clear h31
  refine wpO_end ?_
  refine then_n ?_
  refine c_cut (fun qa qw => Fr 29 [(5, .pointer (some ⟨b24, 0, none⟩)), (3, .int .i64 0), (2, .slice none 0 0), (1, .pointer (some ⟨b3, 0, none⟩))] qa ∧ Bx w [(b24, .cells #[.string i.sender, .int .i64 (bif i.resv then 1 else 0), .string (⟨#[67, 65, 83, 72]⟩ : ByteArray)] 87 (0, 0)), (b3, .cells (insV i A c).cells 30 (0, 0))] qw) ?_ ?_
  ·
    refine kC 15 i.resv h33 (fun hc34 => ?_) (fun hc34 => ?_)
    ·
      refine rp 2 ?_
      refine b0 (.C 0 16 <| .nil) [(16, .pointer (some ⟨b24, 1, none⟩)), (5, .pointer (some ⟨b24, 0, none⟩)), (3, .int .i64 0), (2, .slice none 0 0), (1, .pointer (some ⟨b3, 0, none⟩))] h33 (Kw.nil hB30) fun q35 h36 => ?_
      clear h33
      refine sW 1 0 1 [(b24, .cells #[.string i.sender, .int .i64 1, .string (⟨#[67, 65, 83, 72]⟩ : ByteArray)] 87 (0, 0)), (b3, .cells (insV i A c).cells 30 (0, 0))] h36 gok_none hB30 (.inr fun _ _ => trivial) (fun w39 hB40 hT q37 h38 => ?_)
      clear h36 hB30
      clear hT
      refine wpO_end ?_
      have h41 := h38.keep [(5, .pointer (some ⟨b24, 0, none⟩)), (3, .int .i64 0), (2, .slice none 0 0), (1, .pointer (some ⟨b3, 0, none⟩))] ⟨rfl, rfl, rfl, rfl, trivial⟩
      clear h38
      exact cut_n ⟨h41.keep _ ⟨rfl, rfl, rfl, rfl, trivial⟩, by rw [cT hc34]; exact hB40⟩
    ·
      refine c_skip (by kernel_rfl) ?_
      exact cut_n ⟨h33.keep _ ⟨rfl, rfl, rfl, rfl, trivial⟩, by rw [cF hc34]; exact hB30⟩
  rintro q42 w43 ⟨h44, hB45⟩
  refine then_n ?_
  refine kS ?_
  refine rp 14 ?_
  refine b0 (.S 0 17 0 0 3 <| .C 1 18 <| .L 2 19 1 7 <| .E 3 20 (.int .i64 (IntKind.i64.wrap (0 - i.amt))) <| .E 4 21 (.agg #[.string i.sender, .int .i64 (bif i.resv then 1 else 0), .string (⟨#[67, 65, 83, 72]⟩ : ByteArray), .int .i64 (IntKind.i64.wrap (0 - i.amt))]) <| .C 5 22 <| .L 6 23 1 3 <| .E 7 24 (.agg #[.string i.cpty, .int .i64 0, .string (⟨#[67, 65, 83, 72]⟩ : ByteArray)]) <| .C 8 25 <| .L 9 26 1 7 <| .E 10 27 (.agg #[.string i.cpty, .int .i64 0, .string (⟨#[67, 65, 83, 72]⟩ : ByteArray), .int .i64 i.amt]) <| .nil) [(27, .agg #[.string i.cpty, .int .i64 0, .string (⟨#[67, 65, 83, 72]⟩ : ByteArray), .int .i64 i.amt]), (21, .agg #[.string i.sender, .int .i64 (bif i.resv then 1 else 0), .string (⟨#[67, 65, 83, 72]⟩ : ByteArray), .int .i64 (IntKind.i64.wrap (0 - i.amt))]), (3, .int .i64 0), (2, .slice none 0 0)] h44 (Kw.nil hB45) fun q46 h47 => ?_
  clear h44
  refine sA 11 28 (fun b => .slice (some ⟨b, 0, none⟩) 2 2) (.cells #[.string i.sender, .int .i64 (bif i.resv then 1 else 0), .string (⟨#[67, 65, 83, 72]⟩ : ByteArray), .int .i64 (IntKind.i64.wrap (0 - i.amt)), .string i.cpty, .int .i64 0, .string (⟨#[67, 65, 83, 72]⟩ : ByteArray), .int .i64 i.amt] 89 (0, 0)) h47 gok_none hB45 (fun _ _ hq => trivial) (fun b50 w51 hB52 hN q48 h49 => ?_)
  clear h47 hB45 hN
  refine b0 (.C 12 2 <| .C 13 3 <| .nil) [(3, .int .i64 0), (2, .slice (some ⟨b50, 0, none⟩) 2 2)] h49 (Kw.nil hB52) fun q53 h54 => ?_
  clear h49
  refine wpO_end ?_
  refine then_n ?_
  refine c_ret (by kernel_rfl) ?_
  refine ret2 (t := 2) (u := 3) (v := .slice (some ⟨b50, 0, none⟩) 2 2) (v' := .int .i64 0) h54 (by kernel_rfl) (by kernel_rfl) (by kernel_rfl) ?_
  exact ⟨⟨b50, 0, none⟩, rfl, pC_of (hB52.at 0 rfl) rfl, hB52.bel⟩

set_option maxHeartbeats 4000000 in
set_option maxRecDepth 20000 in
theorem p34 (i : Ins) (A : Option Addr) (c : Nat) (w : World) : Calls Tryz.prog 34 #[insV i A c] w (fun e w' => ∃ ad : Addr, e = .returned (.slice (some ad) 2 2) ∧ (∀ k < 2, El w' (ad.add (k * 4)) (pC i k)) ∧ Below w.heap.size w w') := by
  refine enter Tryz.func34 (by kernel_rfl) ?_ (by kernel_rfl)
  intro q0 h0
  replace h0 := h0.conv (l' := [(0, insV i A c)]) rfl
  have hB := Bx.refl w
  refine kS ?_
  refine rp 2 ?_
  refine sA 0 1 (fun b => .pointer (some ⟨b, 0, none⟩)) (.cells (insV i A c).cells 50 (0, 0)) h0 gok_none hB (fun _ _ hq => trivial) (fun b3 w4 hB5 hN q1 h2 => ?_)
  clear h0 hB hN
  refine b0 (.C 1 2 <| .nil) [(2, .slice none 0 0), (1, .pointer (some ⟨b3, 0, none⟩))] h2 (Kw.nil hB5) fun q6 h7 => ?_
  clear h2
  refine wpO_end ?_
  refine then_n ?_
  refine kS ?_
  refine rp 1 ?_
  refine b0 (.C 0 3 <| .nil) [(3, .int .i64 0), (2, .slice none 0 0), (1, .pointer (some ⟨b3, 0, none⟩))] h7 (Kw.nil hB5) fun q8 h9 => ?_
  clear h7
  refine wpO_end ?_
  refine then_n ?_
  refine kS ?_
  refine kS ?_
  refine rp 2 ?_
  refine b0 (.C 0 4 <| .L 1 5 0 14 <| .nil) [(5, .bool i.resv), (3, .int .i64 0), (2, .slice none 0 0), (1, .pointer (some ⟨b3, 0, none⟩))] h9 (Kw.nil hB5) fun q10 h11 => ?_
  clear h9
  refine wpO_end ?_
  refine then_n ?_
  refine c_cut (fun qa qw => Fr 21 [(3, .int .i64 (bif i.resv then 1 else 0)), (2, .slice none 0 0), (1, .pointer (some ⟨b3, 0, none⟩))] qa ∧ Bx w [(b3, .cells (insV i A c).cells 50 (0, 0))] qw) ?_ ?_
  ·
    refine kC 5 i.resv h11 (fun hc12 => ?_) (fun hc12 => ?_)
    ·
      refine rp 1 ?_
      refine b0 (.C 0 3 <| .nil) [(3, .int .i64 1), (2, .slice none 0 0), (1, .pointer (some ⟨b3, 0, none⟩))] h11 (Kw.nil hB5) fun q13 h14 => ?_
      clear h11
      refine wpO_end ?_
      exact cut_n ⟨h14.keep _ ⟨by rw [cT hc12]; rfl, rfl, rfl, trivial⟩, hB5⟩
    ·
      refine c_skip (by kernel_rfl) ?_
      exact cut_n ⟨h11.keep _ ⟨by rw [cF hc12]; rfl, rfl, rfl, trivial⟩, hB5⟩
  rintro q15 w16 ⟨h17, hB18⟩
  refine then_n ?_
  refine kS ?_
  refine rp 16 ?_
  refine b0 (.C 0 6 <| .L 1 7 0 2 <| .C 2 8 <| .E 3 9 (.agg #[.string i.sender, .int .i64 (bif i.resv then 1 else 0), .string (⟨#[67, 65, 83, 72]⟩ : ByteArray)]) <| .C 4 10 <| .L 5 11 0 7 <| .E 6 12 (.int .i64 (IntKind.i64.wrap (0 - i.amt))) <| .E 7 13 (.agg #[.string i.sender, .int .i64 (bif i.resv then 1 else 0), .string (⟨#[67, 65, 83, 72]⟩ : ByteArray), .int .i64 (IntKind.i64.wrap (0 - i.amt))]) <| .C 8 14 <| .L 9 15 0 3 <| .E 10 16 (.agg #[.string i.cpty, .int .i64 0, .string (⟨#[67, 65, 83, 72]⟩ : ByteArray)]) <| .C 11 17 <| .L 12 18 0 7 <| .E 13 19 (.agg #[.string i.cpty, .int .i64 0, .string (⟨#[67, 65, 83, 72]⟩ : ByteArray), .int .i64 i.amt]) <| .nil) [(19, .agg #[.string i.cpty, .int .i64 0, .string (⟨#[67, 65, 83, 72]⟩ : ByteArray), .int .i64 i.amt]), (13, .agg #[.string i.sender, .int .i64 (bif i.resv then 1 else 0), .string (⟨#[67, 65, 83, 72]⟩ : ByteArray), .int .i64 (IntKind.i64.wrap (0 - i.amt))]), (2, .slice none 0 0)] h17 (Kw.nil hB18) fun q19 h20 => ?_
  clear h17
  refine sA 14 20 (fun b => .slice (some ⟨b, 0, none⟩) 2 2) (.cells #[.string i.sender, .int .i64 (bif i.resv then 1 else 0), .string (⟨#[67, 65, 83, 72]⟩ : ByteArray), .int .i64 (IntKind.i64.wrap (0 - i.amt)), .string i.cpty, .int .i64 0, .string (⟨#[67, 65, 83, 72]⟩ : ByteArray), .int .i64 i.amt] 92 (0, 0)) h20 gok_none hB18 (fun _ _ hq => trivial) (fun b23 w24 hB25 hN q21 h22 => ?_)
  clear h20 hB18 hN
  refine b0 (.C 15 2 <| .nil) [(2, .slice (some ⟨b23, 0, none⟩) 2 2)] h22 (Kw.nil hB25) fun q26 h27 => ?_
  clear h22
  refine wpO_end ?_
  refine then_n ?_
  refine c_ret (by kernel_rfl) ?_
  refine ret1 (t := 2) (v := .slice (some ⟨b23, 0, none⟩) 2 2) h27 (by kernel_rfl) (by kernel_rfl) ?_
  exact ⟨⟨b23, 0, none⟩, rfl, pC_of (hB25.at 0 rfl) rfl, hB25.bel⟩

end Go.Proofs.YtljegdokbifoiaaGreatDoor.Af
