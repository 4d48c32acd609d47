/- Comparing routes, the walk. No condition. -/
import Derived.Test.YtljegdokbifoiaaGreatDoorZzCr
import Derived.Test.YtljegdokbifoiaaGreatDoorZzPk
namespace Go.Proofs.YtljegdokbifoiaaGreatDoor.Af
open Go.RowKit
set_option maxHeartbeats 4000000 in
set_option maxRecDepth 20000 in
theorem p46 (x y : Rt) (w : World) : Calls Tryz.prog 46 #[.agg #[.string x.1, .string x.2], .agg #[.string y.1, .string y.2]] w (fun e w' => e = .returned (.int .i64 (cmpR x y)) ∧ Gr w w') := by
  have hG := Gr.refl w
  refine enter Tryz.func46 (by kernel_rfl) ?_ (by kernel_rfl)
  intro q0 h0
  replace h0 := h0.conv (l' := [(0, .agg #[.string x.1, .string x.2]), (1, .agg #[.string y.1, .string y.2])]) rfl
  have hB := Bx.refl w
  refine kS ?_
  refine rp 3 ?_
  refine sA2 0 2 (fun b => .pointer (some ⟨b, 0, none⟩)) (.cells #[.string x.1, .string x.2] 108 (0, 0)) h0 gok_none hB (fun _ _ hq => trivial) (fun b3 w4 hB5 hN q1 h2 => ?_)
  have hG6 := hG.alloc hN
  clear h0 hB hN
  refine sA2 1 3 (fun b => .pointer (some ⟨b, 0, none⟩)) (.cells #[.string y.1, .string y.2] 108 (0, 0)) h2 gok_none hB5 (fun _ _ hq => trivial) (fun b9 w10 hB11 hN q7 h8 => ?_)
  have hG12 := hG6.alloc hN
  clear h2 hB5 hN
  refine b0 (.C 2 4 <| .nil) [(4, .int .i64 0), (3, .pointer (some ⟨b9, 0, none⟩)), (2, .pointer (some ⟨b3, 0, none⟩))] h8 (Kw.nil hB11) fun q13 h14 => ?_
  clear h8
  refine wpO_end ?_
  refine then_n ?_
  refine kS ?_
  have hD15 := hB11.drew
  refine rd (Bx w [(b9, .cells #[.string y.1, .string y.2] 108 (0, 0)), (b3, .cells #[.string x.1, .string x.2] 108 (0, 0))]) 13 [⟨0, true, 0, 4, 32⟩, ⟨1, true, 1, 32, 64⟩, ⟨2, true, 0, 8, 128⟩, ⟨3, true, 4, 128, 256⟩, ⟨5, true, 0, 4, 1024⟩, ⟨6, true, 32, 1024, 2048⟩, ⟨7, true, 0, 8, 4096⟩, ⟨8, true, 128, 4096, 8192⟩, ⟨4, false, 10, 320, 512⟩, ⟨9, false, 336, 10240, 16384⟩, ⟨10, false, 528, 16896, 32768⟩, ⟨11, false, 1536, 32768, 65536⟩, ⟨12, true, 4095, 65536, 16⟩] hD15 ?_
  have hG16 := hG12.drew
  generalize World.drew w10 = w17 at hD15 hG16 ⊢
  refine d0 (.C 0 5 <| .L 1 6 1 0 <| .C 2 7 <| .L 3 8 0 0 <| .C 5 10 <| .L 6 11 1 1 <| .C 7 12 <| .L 8 13 0 1 <| .nil) [(13, .string y.2), (11, .string x.2), (8, .string y.1), (6, .string x.1), (4, .int .i64 0)] h14 (fun _ hS => Kw.nil hS) fun q18 h19 => ?_
  clear h14
  refine sC 4 9 h19 gok_none (Tryz.strings_Compare x.1 y.1 w17) ?_
  rintro _ w22 ⟨rfl, he25⟩
  have hb23 : Below w17.heap.size w17 w22 := by rw [he25]; exact Below.refl _ _
  have hG26 : Gr w w22 := by rw [he25]; exact hG16
  clear he25
  have hB24 := hD15.call hb23
  refine ⟨_, rfl, hB24, fun q20 h21 => ?_⟩
  clear h19 hD15 hb23
  refine sC 9 14 h21 gok_none (Tryz.strings_Compare x.2 y.2 w22) ?_
  rintro _ w29 ⟨rfl, he32⟩
  have hb30 : Below w22.heap.size w22 w29 := by rw [he32]; exact Below.refl _ _
  have hG33 : Gr w w29 := by rw [he32]; exact hG26
  clear he32
  have hB31 := hB24.call hb30
  refine ⟨_, rfl, hB31, fun q27 h28 => ?_⟩
  clear h21 hB24 hb30
  refine sA2 10 15 (fun b => .slice (some ⟨b, 0, none⟩) 2 2) (.cells #[.int .i64 (cmpS x.1 y.1), .int .i64 (cmpS x.2 y.2)] 3 (0, 0)) h28 gok_none hB31 (fun _ _ hq => hq.tail) (fun b36 w37 hB38 hN q34 h35 => ?_)
  have hG39 := hG33.alloc hN
  clear h28 hB31 hN
  refine sC 11 16 h35 gok_none (or72' (cmpS x.1 y.1) (cmpS x.2 y.2) b36 w37 (hB38.at 0 rfl)) ?_
  rintro _ w42 ⟨rfl, he45⟩
  have hb43 : Below w37.heap.size w37 w42 := by rw [he45]; exact Below.refl _ _
  have hG46 : Gr w w42 := by rw [he45]; exact hG39
  clear he45
  have hB44 := hB38.call hb43
  refine ⟨_, rfl, hB44.tail, fun q40 h41 => ?_⟩
  clear h35 hB38 hb43
  refine d0 (.C 12 4 <| .nil) [(4, .int .i64 (orI (cmpS x.1 y.1) (cmpS x.2 y.2)))] h41 (fun _ hS => Kw.nil hS) fun q47 h48 => ?_
  clear h41
  refine wpO_end ?_
  refine then_n ?_
  refine c_ret (by kernel_rfl) ?_
  refine ret1 (t := 4) (v := .int .i64 (orI (cmpS x.1 y.1) (cmpS x.2 y.2))) h48 (by kernel_rfl) (by kernel_rfl) ?_
  exact ⟨rfl, hG46⟩

end Go.Proofs.YtljegdokbifoiaaGreatDoor.Af
