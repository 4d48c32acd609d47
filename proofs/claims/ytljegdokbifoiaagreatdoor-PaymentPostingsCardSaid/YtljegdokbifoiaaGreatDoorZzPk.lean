/- The keys of a map of strings, in order. At most 10000 entries. The functions that are handed to the collecting. No condition. One result for each key of a map of strings. At most 10000 entries. Needs and positions of a list of payments. At most 5000. -/
import Derived.Test.YtljegdokbifoiaaGreatDoorZzAp
import Derived.Test.YtljegdokbifoiaaGreatDoorZzPc
namespace Go.Proofs.YtljegdokbifoiaaGreatDoor.Af
open Go.RowKit
set_option maxHeartbeats 4000000 in
set_option maxRecDepth 20000 in
theorem p89 (b : Nat) (w : World) : Calls Tryz.prog 89 #[.map (some b)] w (fun e w' => ∃ Bm : Nat, e = .returned (.func (.func 106) #[] #[.pointer (some ⟨Bm, 0, none⟩)]) ∧ Bm < w'.heap.size ∧ w'.cell? ⟨Bm, 0, none⟩ = some (.map (some b)) ∧ Below w.heap.size w w') := by
  refine enter Tryz.func89 (by kernel_rfl) ?_ (by kernel_rfl)
  intro q0 h0
  replace h0 := h0.conv (l' := [(0, .map (some b))]) rfl
  have hB := Bx.refl w
  refine kS ?_
  refine rp 2 ?_
  refine sA 0 1 (fun b => .pointer (some ⟨b, 0, none⟩)) (.cells #[.map (some b)] 134 (0, 0)) h0 gok_none hB (fun _ _ hq => trivial) (fun b3 w4 hB5 hN q1 h2 => ?_)
  clear h0 hB hN
  refine b0 (.C 1 2 <| .nil) [(2, .nilFunc), (1, .pointer (some ⟨b3, 0, none⟩))] h2 (Kw.nil hB5) fun q6 h7 => ?_
  clear h2
  refine wpO_end ?_
  refine then_n ?_
  refine kS ?_
  refine rp 2 ?_
  refine b0 (.E 0 3 (.func (.func 106) #[] #[.pointer (some ⟨b3, 0, none⟩)]) <| .C 1 2 <| .nil) [(2, .func (.func 106) #[] #[.pointer (some ⟨b3, 0, none⟩)])] h7 (Kw.nil hB5) fun q8 h9 => ?_
  clear h7
  refine wpO_end ?_
  refine then_n ?_
  refine c_ret (by kernel_rfl) ?_
  refine ret1 (t := 2) (v := .func (.func 106) #[] #[.pointer (some ⟨b3, 0, none⟩)]) h9 (by kernel_rfl) (by kernel_rfl) ?_
  have hE := El.of_blk (hB5.at 0 rfl)
  exact ⟨_, rfl, hE.1, hE.2 0 _ rfl, hB5.bel⟩

set_option maxHeartbeats 4000000 in
set_option maxRecDepth 20000 in
theorem p90U (Bm : Nat) (b : Nat) (es : Array MapEntry) (clk : Nat) (M : List (ByteArray × Use)) (w : World) (hn : M.length ≤ 10000) (hBm : Bm < w.heap.size) (hm : w.cell? ⟨Bm, 0, none⟩ = some (.map (some b))) (hb : w.heap[b]? = some (.map es clk)) (hM : MapT Tryz.prog 9 eKs eU es clk M) : Calls Tryz.prog 90 #[.func (.func 106) #[] #[.pointer (some ⟨Bm, 0, none⟩)]] w (fun e w' => ∃ (v : Value) (ks : List ByteArray), e = .returned v ∧ ks.Perm (M.map (·.1)) ∧ w'.ownsRow w.heap.size 9 1 v ks.length (ks.map eKs) ∧ Below w.heap.size w w') := by
  refine enter Tryz.func90 (by kernel_rfl) ?_ (by kernel_rfl)
  intro q0 h0
  replace h0 := h0.conv (l' := [(0, .func (.func 106) #[] #[.pointer (some ⟨Bm, 0, none⟩)])]) rfl
  have hB := Bx.refl w
  refine kS ?_
  refine rp 1 ?_
  refine b0 (.C 0 2 <| .nil) [(2, .slice none 0 0), (0, .func (.func 106) #[] #[.pointer (some ⟨Bm, 0, none⟩)])] h0 (Kw.nil hB) fun q1 h2 => ?_
  clear h0
  refine wpO_end ?_
  refine then_n ?_
  refine kS ?_
  refine rp 3 ?_
  refine b0 (.C 0 3 <| .nil) [(3, .func (.func 106) #[] #[.pointer (some ⟨Bm, 0, none⟩)]), (2, .slice none 0 0)] h2 (Kw.nil hB) fun q3 h4 => ?_
  clear h2
  refine sC 1 4 h4 gok_none (app106 M Bm b es clk w hn (Nat.lt_of_lt_of_le hBm hB.bel.size) ((hB.bel.cell (p := ⟨Bm, 0, none⟩) hBm).trans hm) ((hB.bel.block _ (blk_size hb)).trans hb) hM) ?_
  rintro _ w12 ⟨v7, ks8, rfl, hp11, ho9, hb13⟩
  have ho10 := own_base ho9 hB.bel.size
  have hB14 := hB.call hb13
  refine ⟨_, rfl, trivial, fun q5 h6 => ?_⟩
  clear h4 hB hb13
  refine b0 (.C 2 2 <| .nil) [(2, v7)] h6 (Kw.nil hB14) fun q15 h16 => ?_
  clear h6
  refine wpO_end ?_
  refine then_n ?_
  refine c_ret (by kernel_rfl) ?_
  refine ret1 (t := 2) (v := v7) h16 (by kernel_rfl) (by kernel_rfl) ?_
  exact ⟨_, ks8, rfl, hp11, ho10, hB14.bel⟩

set_option maxHeartbeats 4000000 in
set_option maxRecDepth 20000 in
theorem p67U (Bm : Nat) (b : Nat) (es : Array MapEntry) (clk : Nat) (M : List (ByteArray × Use)) (w : World) (hn : M.length ≤ 10000) (hBm : Bm < w.heap.size) (hm : w.cell? ⟨Bm, 0, none⟩ = some (.map (some b))) (hb : w.heap[b]? = some (.map es clk)) (hM : MapT Tryz.prog 9 eKs eU es clk M) : Calls Tryz.prog 67 #[.func (.func 106) #[] #[.pointer (some ⟨Bm, 0, none⟩)], .func (.func 41) #[] #[]] w (fun e w' => ∃ (A : Option Addr) (c : Nat), e = .returned (.slice A (keysS M).length c) ∧ w'.ownsRow w.heap.size 9 1 (.slice A (keysS M).length c) (keysS M).length ((keysS M).map eKs) ∧ Below w.heap.size w w') := by
  refine enter Tryz.func67 (by kernel_rfl) ?_ (by kernel_rfl)
  intro q0 h0
  replace h0 := h0.conv (l' := [(0, .func (.func 106) #[] #[.pointer (some ⟨Bm, 0, none⟩)]), (1, .func (.func 41) #[] #[])]) rfl
  have hB := Bx.refl w
  refine kS ?_
  refine rp 1 ?_
  refine b0 (.C 0 4 <| .nil) [(4, .slice none 0 0), (0, .func (.func 106) #[] #[.pointer (some ⟨Bm, 0, none⟩)]), (1, .func (.func 41) #[] #[])] h0 (Kw.nil hB) fun q1 h2 => ?_
  clear h0
  refine wpO_end ?_
  refine then_n ?_
  refine kS ?_
  refine rp 3 ?_
  refine b0 (.C 0 6 <| .nil) [(6, .func (.func 106) #[] #[.pointer (some ⟨Bm, 0, none⟩)]), (4, .slice none 0 0), (1, .func (.func 41) #[] #[])] h2 (Kw.nil hB) fun q3 h4 => ?_
  clear h2
  refine sC 1 7 h4 gok_none (p90U Bm b es clk M w hn (Nat.lt_of_lt_of_le hBm hB.bel.size) ((hB.bel.cell (p := ⟨Bm, 0, none⟩) hBm).trans hm) ((hB.bel.block _ (blk_size hb)).trans hb) hM) ?_
  rintro _ w14 ⟨v7, ks8, rfl, hp11, ho9, hb15⟩
  have ho10 := own_base ho9 hB.bel.size
  obtain ⟨A12, cp13, rfl, -, -⟩ := own_rd ho10
  have hkl : ks8.length ≤ 10000 := by rw [hp11.length_eq, List.length_map]; exact hn
  have hB16 := hB.call hb15
  refine ⟨_, rfl, trivial, fun q5 h6 => ?_⟩
  clear h4 hB hb15
  refine b0 (.C 2 5 <| .nil) [(5, .slice A12 ks8.length cp13), (4, .slice none 0 0), (1, .func (.func 41) #[] #[])] h6 (Kw.nil hB16) fun q17 h18 => ?_
  clear h6
  refine wpO_end ?_
  refine then_n ?_
  refine kS ?_
  refine rp 3 ?_
  refine b0 (.C 0 8 <| .C 1 9 <| .nil) [(9, .func (.func 41) #[] #[]), (8, .slice A12 ks8.length cp13), (5, .slice A12 ks8.length cp13), (4, .slice none 0 0)] h18 (Kw.nil hB16) fun q19 h20 => ?_
  clear h18
  refine sC 2 10 h20 gok_none (c91 ks8 A12 cp13 _ w14 hkl ho10) ?_
  rintro _ w23 ⟨rfl, ho26, hb24⟩
  have hB25 := hB16.grown ho10 hb24 (Nat.le_refl _) (by kernel_rfl)
  refine ⟨_, rfl, trivial, fun q21 h22 => ?_⟩
  clear h20 hB16 hb24
  refine wpO_end ?_
  have h27 := h22.keep [(5, .slice A12 ks8.length cp13), (4, .slice none 0 0)] ⟨rfl, rfl, trivial⟩
  clear h22
  refine then_n ?_
  refine kS ?_
  refine rp 2 ?_
  refine b0 (.C 0 11 <| .C 1 4 <| .nil) [(4, .slice A12 ks8.length cp13)] h27 (Kw.nil hB25) fun q28 h29 => ?_
  clear h27
  refine wpO_end ?_
  refine then_n ?_
  refine c_ret (by kernel_rfl) ?_
  refine ret1 (t := 4) (v := .slice A12 ks8.length cp13) h29 (by kernel_rfl) (by kernel_rfl) ?_
  have e1 : ks8.length = (keysS M).length := by rw [keysS_len, hp11.length_eq, List.length_map]
  have e2 := keysS_of hp11
  refine ⟨A12, cp13, ?_, ?_, hB25.bel⟩
  · rw [← e1]
  · rw [← e1, ← e2]; exact ho26

set_option maxHeartbeats 4000000 in
set_option maxRecDepth 20000 in
theorem p68 (b : Nat) (w : World) : Calls Tryz.prog 68 #[.map (some b)] w (fun e w' => ∃ Bm : Nat, e = .returned (.func (.func 92) #[] #[.pointer (some ⟨Bm, 0, none⟩)]) ∧ Bm < w'.heap.size ∧ w'.cell? ⟨Bm, 0, none⟩ = some (.map (some b)) ∧ Below w.heap.size w w') := by
  refine enter Tryz.func68 (by kernel_rfl) ?_ (by kernel_rfl)
  intro q0 h0
  replace h0 := h0.conv (l' := [(0, .map (some b))]) rfl
  have hB := Bx.refl w
  refine kS ?_
  refine rp 2 ?_
  refine sA 0 1 (fun b => .pointer (some ⟨b, 0, none⟩)) (.cells #[.map (some b)] 102 (0, 0)) h0 gok_none hB (fun _ _ hq => trivial) (fun b3 w4 hB5 hN q1 h2 => ?_)
  clear h0 hB hN
  refine b0 (.C 1 2 <| .nil) [(2, .nilFunc), (1, .pointer (some ⟨b3, 0, none⟩))] h2 (Kw.nil hB5) fun q6 h7 => ?_
  clear h2
  refine wpO_end ?_
  refine then_n ?_
  refine kS ?_
  refine rp 2 ?_
  refine b0 (.E 0 3 (.func (.func 92) #[] #[.pointer (some ⟨b3, 0, none⟩)]) <| .C 1 2 <| .nil) [(2, .func (.func 92) #[] #[.pointer (some ⟨b3, 0, none⟩)])] h7 (Kw.nil hB5) fun q8 h9 => ?_
  clear h7
  refine wpO_end ?_
  refine then_n ?_
  refine c_ret (by kernel_rfl) ?_
  refine ret1 (t := 2) (v := .func (.func 92) #[] #[.pointer (some ⟨b3, 0, none⟩)]) h9 (by kernel_rfl) (by kernel_rfl) ?_
  have hE := El.of_blk (hB5.at 0 rfl)
  exact ⟨_, rfl, hE.1, hE.2 0 _ rfl, hB5.bel⟩

set_option maxHeartbeats 4000000 in
set_option maxRecDepth 20000 in
theorem p90P (Bm : Nat) (b : Nat) (es : Array MapEntry) (clk : Nat) (M : List (ByteArray × Pos)) (w : World) (hn : M.length ≤ 10000) (hBm : Bm < w.heap.size) (hm : w.cell? ⟨Bm, 0, none⟩ = some (.map (some b))) (hb : w.heap[b]? = some (.map es clk)) (hM : MapT Tryz.prog 9 eKs eP es clk M) : Calls Tryz.prog 90 #[.func (.func 92) #[] #[.pointer (some ⟨Bm, 0, none⟩)]] w (fun e w' => ∃ (v : Value) (ks : List ByteArray), e = .returned v ∧ ks.Perm (M.map (·.1)) ∧ w'.ownsRow w.heap.size 9 1 v ks.length (ks.map eKs) ∧ Below w.heap.size w w') := by
  refine enter Tryz.func90 (by kernel_rfl) ?_ (by kernel_rfl)
  intro q0 h0
  replace h0 := h0.conv (l' := [(0, .func (.func 92) #[] #[.pointer (some ⟨Bm, 0, none⟩)])]) rfl
  have hB := Bx.refl w
  refine kS ?_
  refine rp 1 ?_
  refine b0 (.C 0 2 <| .nil) [(2, .slice none 0 0), (0, .func (.func 92) #[] #[.pointer (some ⟨Bm, 0, none⟩)])] h0 (Kw.nil hB) fun q1 h2 => ?_
  clear h0
  refine wpO_end ?_
  refine then_n ?_
  refine kS ?_
  refine rp 3 ?_
  refine b0 (.C 0 3 <| .nil) [(3, .func (.func 92) #[] #[.pointer (some ⟨Bm, 0, none⟩)]), (2, .slice none 0 0)] h2 (Kw.nil hB) fun q3 h4 => ?_
  clear h2
  refine sC 1 4 h4 gok_none (app92 M Bm b es clk w hn (Nat.lt_of_lt_of_le hBm hB.bel.size) ((hB.bel.cell (p := ⟨Bm, 0, none⟩) hBm).trans hm) ((hB.bel.block _ (blk_size hb)).trans hb) hM) ?_
  rintro _ w12 ⟨v7, ks8, rfl, hp11, ho9, hb13⟩
  have ho10 := own_base ho9 hB.bel.size
  have hB14 := hB.call hb13
  refine ⟨_, rfl, trivial, fun q5 h6 => ?_⟩
  clear h4 hB hb13
  refine b0 (.C 2 2 <| .nil) [(2, v7)] h6 (Kw.nil hB14) fun q15 h16 => ?_
  clear h6
  refine wpO_end ?_
  refine then_n ?_
  refine c_ret (by kernel_rfl) ?_
  refine ret1 (t := 2) (v := v7) h16 (by kernel_rfl) (by kernel_rfl) ?_
  exact ⟨_, ks8, rfl, hp11, ho10, hB14.bel⟩

set_option maxHeartbeats 4000000 in
set_option maxRecDepth 20000 in
theorem p67P (Bm : Nat) (b : Nat) (es : Array MapEntry) (clk : Nat) (M : List (ByteArray × Pos)) (w : World) (hn : M.length ≤ 10000) (hBm : Bm < w.heap.size) (hm : w.cell? ⟨Bm, 0, none⟩ = some (.map (some b))) (hb : w.heap[b]? = some (.map es clk)) (hM : MapT Tryz.prog 9 eKs eP es clk M) : Calls Tryz.prog 67 #[.func (.func 92) #[] #[.pointer (some ⟨Bm, 0, none⟩)], .func (.func 41) #[] #[]] w (fun e w' => ∃ (A : Option Addr) (c : Nat), e = .returned (.slice A (keysS M).length c) ∧ w'.ownsRow w.heap.size 9 1 (.slice A (keysS M).length c) (keysS M).length ((keysS M).map eKs) ∧ Below w.heap.size w w') := by
  refine enter Tryz.func67 (by kernel_rfl) ?_ (by kernel_rfl)
  intro q0 h0
  replace h0 := h0.conv (l' := [(0, .func (.func 92) #[] #[.pointer (some ⟨Bm, 0, none⟩)]), (1, .func (.func 41) #[] #[])]) rfl
  have hB := Bx.refl w
  refine kS ?_
  refine rp 1 ?_
  refine b0 (.C 0 4 <| .nil) [(4, .slice none 0 0), (0, .func (.func 92) #[] #[.pointer (some ⟨Bm, 0, none⟩)]), (1, .func (.func 41) #[] #[])] h0 (Kw.nil hB) fun q1 h2 => ?_
  clear h0
  refine wpO_end ?_
  refine then_n ?_
  refine kS ?_
  refine rp 3 ?_
  refine b0 (.C 0 6 <| .nil) [(6, .func (.func 92) #[] #[.pointer (some ⟨Bm, 0, none⟩)]), (4, .slice none 0 0), (1, .func (.func 41) #[] #[])] h2 (Kw.nil hB) fun q3 h4 => ?_
  clear h2
  refine sC 1 7 h4 gok_none (p90P Bm b es clk M w hn (Nat.lt_of_lt_of_le hBm hB.bel.size) ((hB.bel.cell (p := ⟨Bm, 0, none⟩) hBm).trans hm) ((hB.bel.block _ (blk_size hb)).trans hb) hM) ?_
  rintro _ w14 ⟨v7, ks8, rfl, hp11, ho9, hb15⟩
  have ho10 := own_base ho9 hB.bel.size
  obtain ⟨A12, cp13, rfl, -, -⟩ := own_rd ho10
  have hkl : ks8.length ≤ 10000 := by rw [hp11.length_eq, List.length_map]; exact hn
  have hB16 := hB.call hb15
  refine ⟨_, rfl, trivial, fun q5 h6 => ?_⟩
  clear h4 hB hb15
  refine b0 (.C 2 5 <| .nil) [(5, .slice A12 ks8.length cp13), (4, .slice none 0 0), (1, .func (.func 41) #[] #[])] h6 (Kw.nil hB16) fun q17 h18 => ?_
  clear h6
  refine wpO_end ?_
  refine then_n ?_
  refine kS ?_
  refine rp 3 ?_
  refine b0 (.C 0 8 <| .C 1 9 <| .nil) [(9, .func (.func 41) #[] #[]), (8, .slice A12 ks8.length cp13), (5, .slice A12 ks8.length cp13), (4, .slice none 0 0)] h18 (Kw.nil hB16) fun q19 h20 => ?_
  clear h18
  refine sC 2 10 h20 gok_none (c91 ks8 A12 cp13 _ w14 hkl ho10) ?_
  rintro _ w23 ⟨rfl, ho26, hb24⟩
  have hB25 := hB16.grown ho10 hb24 (Nat.le_refl _) (by kernel_rfl)
  refine ⟨_, rfl, trivial, fun q21 h22 => ?_⟩
  clear h20 hB16 hb24
  refine wpO_end ?_
  have h27 := h22.keep [(5, .slice A12 ks8.length cp13), (4, .slice none 0 0)] ⟨rfl, rfl, trivial⟩
  clear h22
  refine then_n ?_
  refine kS ?_
  refine rp 2 ?_
  refine b0 (.C 0 11 <| .C 1 4 <| .nil) [(4, .slice A12 ks8.length cp13)] h27 (Kw.nil hB25) fun q28 h29 => ?_
  clear h27
  refine wpO_end ?_
  refine then_n ?_
  refine c_ret (by kernel_rfl) ?_
  refine ret1 (t := 4) (v := .slice A12 ks8.length cp13) h29 (by kernel_rfl) (by kernel_rfl) ?_
  have e1 : ks8.length = (keysS M).length := by rw [keysS_len, hp11.length_eq, List.length_map]
  have e2 := keysS_of hp11
  refine ⟨A12, cp13, ?_, ?_, hB25.bel⟩
  · rw [← e1]
  · rw [← e1, ← e2]; exact ho26

end Go.Proofs.YtljegdokbifoiaaGreatDoor.Af

namespace Go.Proofs.YtljegdokbifoiaaGreatDoor.Af
open Go.RowKit
set_option maxHeartbeats 4000000 in
set_option maxRecDepth 20000 in
theorem p37 (u : Use) (w : World) : Calls Tryz.prog 37 #[.agg #[.int .i64 u.1, .int .i64 u.2]] w fun e w' => e = .returned (.int .i64 (hMost u)) ∧ Below w.heap.size w w' := by
  refine enter Tryz.func37 (by kernel_rfl) ?_ (by kernel_rfl)
  intro q0 h0
  replace h0 := h0.conv (l' := [(0, .agg #[.int .i64 u.1, .int .i64 u.2])]) rfl
  have hB := Bx.refl w
  refine kS ?_
  refine rp 2 ?_
  refine sA 0 1 (fun b => .pointer (some ⟨b, 0, none⟩)) (.cells #[.int .i64 u.1, .int .i64 u.2] 99 (0, 0)) h0 gok_none hB (fun _ _ hq => trivial) (fun b3 w4 hB5 hN q1 h2 => ?_)
  clear h0 hB hN
  refine b0 (.C 1 2 <| .nil) [(2, .int .i64 0), (1, .pointer (some ⟨b3, 0, none⟩))] h2 (Kw.nil hB5) fun q6 h7 => ?_
  clear h2
  refine wpO_end ?_
  refine then_n ?_
  refine kS ?_
  refine rp 3 ?_
  refine b0 (.C 0 3 <| .L 1 4 0 1 <| .C 2 2 <| .nil) [(2, .int .i64 u.2)] h7 (Kw.nil hB5) fun q8 h9 => ?_
  clear h7
  refine wpO_end ?_
  refine then_n ?_
  refine c_ret (by kernel_rfl) ?_
  refine ret1 (t := 2) (v := .int .i64 u.2) h9 (by kernel_rfl) (by kernel_rfl) ?_
  exact ⟨ret_eq (rfl), hB5.bel⟩

set_option maxHeartbeats 4000000 in
set_option maxRecDepth 20000 in
theorem p38 (u : Use) (w : World) : Calls Tryz.prog 38 #[.agg #[.int .i64 u.1, .int .i64 u.2]] w fun e w' => e = .returned (.int .i64 (hNow u)) ∧ Below w.heap.size w w' := by
  refine enter Tryz.func38 (by kernel_rfl) ?_ (by kernel_rfl)
  intro q0 h0
  replace h0 := h0.conv (l' := [(0, .agg #[.int .i64 u.1, .int .i64 u.2])]) rfl
  have hB := Bx.refl w
  refine kS ?_
  refine rp 2 ?_
  refine sA 0 1 (fun b => .pointer (some ⟨b, 0, none⟩)) (.cells #[.int .i64 u.1, .int .i64 u.2] 99 (0, 0)) h0 gok_none hB (fun _ _ hq => trivial) (fun b3 w4 hB5 hN q1 h2 => ?_)
  clear h0 hB hN
  refine b0 (.C 1 2 <| .nil) [(2, .int .i64 0), (1, .pointer (some ⟨b3, 0, none⟩))] h2 (Kw.nil hB5) fun q6 h7 => ?_
  clear h2
  refine wpO_end ?_
  refine then_n ?_
  refine kS ?_
  refine rp 4 ?_
  refine b0 (.C 0 3 <| .L 1 4 0 0 <| .E 2 5 (.int .i64 (if (0 : Int) < u.1 then u.1 else (0 : Int))) <| .C 3 2 <| .nil) [(2, .int .i64 (if (0 : Int) < u.1 then u.1 else (0 : Int)))] h7 (Kw.nil hB5) fun q8 h9 => ?_
  clear h7
  refine wpO_end ?_
  refine then_n ?_
  refine c_ret (by kernel_rfl) ?_
  refine ret1 (t := 2) (v := .int .i64 (if (0 : Int) < u.1 then u.1 else (0 : Int))) h9 (by kernel_rfl) (by kernel_rfl) ?_
  exact ⟨ret_eq (rfl), hB5.bel⟩

set_option maxHeartbeats 4000000 in
set_option maxRecDepth 20000 in
theorem p66_37 (s : ByteArray) (u : Use) (bo : Nat) (w : World) (hE : El w ⟨bo, 0, none⟩ [.func (.func 37) #[] #[]]) : Calls Tryz.prog 66 #[.string s, .agg #[.int .i64 u.1, .int .i64 u.2], .pointer (some ⟨bo, 0, none⟩)] w fun e w' => e = .returned (needV s (hMost u)) ∧ Below w.heap.size w w' := by
  refine enter Tryz.func66 (by kernel_rfl) ?_ (by kernel_rfl)
  intro q0 h0
  replace h0 := h0.conv (l' := [(0, .string s), (1, .agg #[.int .i64 u.1, .int .i64 u.2]), (2, .pointer (some ⟨bo, 0, none⟩))]) rfl
  have hB := Bx.refl w
  refine kS ?_
  refine rp 2 ?_
  refine sA 0 4 (fun b => .pointer (some ⟨b, 0, none⟩)) (.cells #[.int .i64 u.1, .int .i64 u.2] 99 (0, 0)) h0 gok_none hB (fun _ _ hq => trivial) (fun b3 w4 hB5 hN q1 h2 => ?_)
  clear h0 hB hN
  refine sA 1 5 (fun b => .pointer (some ⟨b, 0, none⟩)) (.cells #[.string (⟨#[]⟩ : ByteArray), .int .i64 0] 42 (0, 0)) h2 gok_none hB5 (fun _ _ hq => trivial) (fun b8 w9 hB10 hN q6 h7 => ?_)
  clear h2 hB5 hN
  refine wpO_end ?_
  have h11 := h7.keep [(5, .pointer (some ⟨b8, 0, none⟩)), (4, .pointer (some ⟨b3, 0, none⟩)), (0, .string s), (2, .pointer (some ⟨bo, 0, none⟩))] ⟨rfl, rfl, rfl, rfl, trivial⟩
  clear h7
  refine then_n ?_
  refine kS ?_
  refine rp 6 ?_
  refine b0 (.C 0 6 <| .X 1 7 0 0 <| .S 2 8 1 0 2 <| .nil) [(8, .agg #[.int .i64 u.1, .int .i64 u.2]), (7, .func (.func 37) #[] #[]), (6, .string s), (5, .pointer (some ⟨b8, 0, none⟩))] h11 ((Kw.nil hB10).cons (hE.below hB10.bel)) fun q12 h13 => ?_
  clear h11
  refine sC 3 9 h13 gok_none (p37 (u.1, u.2) w9) ?_
  rintro _ w16 ⟨rfl, hb17⟩
  have hB18 := hB10.call hb17
  refine ⟨_, rfl, trivial, fun q14 h15 => ?_⟩
  clear h13 hB10 hb17
  refine b0 (.E 4 10 (.agg #[.string s, .int .i64 (hMost (u.1, u.2))]) <| .nil) [(10, .agg #[.string s, .int .i64 (hMost (u.1, u.2))]), (5, .pointer (some ⟨b8, 0, none⟩))] h15 (Kw.nil hB18) fun q19 h20 => ?_
  clear h15
  refine sW 5 0 0 [(b8, .cells #[.string s, .int .i64 (hMost (u.1, u.2))] 42 (0, 0)), (b3, .cells #[.int .i64 u.1, .int .i64 u.2] 99 (0, 0))] h20 gok_none hB18 (.inr fun _ _ => trivial) (fun w23 hB24 hT q21 h22 => ?_)
  clear h20 hB18
  clear hT
  refine wpO_end ?_
  have h25 := h22.keep [(5, .pointer (some ⟨b8, 0, none⟩))] ⟨rfl, trivial⟩
  clear h22
  refine then_n ?_
  refine c_ret (by kernel_rfl) ?_
  refine retC (t := 5) (T := 42) (b := b8) (vs := [.string s, .int .i64 (hMost (u.1, u.2))]) h25 (by kernel_rfl) (by kernel_rfl) hB24 0 (by kernel_rfl) (by kernel_rfl) (by kernel_rfl) ?_
  exact ⟨ret_eq (rfl), hB24.bel⟩

set_option maxHeartbeats 4000000 in
set_option maxRecDepth 20000 in
theorem p66_38 (s : ByteArray) (u : Use) (bo : Nat) (w : World) (hE : El w ⟨bo, 0, none⟩ [.func (.func 38) #[] #[]]) : Calls Tryz.prog 66 #[.string s, .agg #[.int .i64 u.1, .int .i64 u.2], .pointer (some ⟨bo, 0, none⟩)] w fun e w' => e = .returned (needV s (hNow u)) ∧ Below w.heap.size w w' := by
  refine enter Tryz.func66 (by kernel_rfl) ?_ (by kernel_rfl)
  intro q0 h0
  replace h0 := h0.conv (l' := [(0, .string s), (1, .agg #[.int .i64 u.1, .int .i64 u.2]), (2, .pointer (some ⟨bo, 0, none⟩))]) rfl
  have hB := Bx.refl w
  refine kS ?_
  refine rp 2 ?_
  refine sA 0 4 (fun b => .pointer (some ⟨b, 0, none⟩)) (.cells #[.int .i64 u.1, .int .i64 u.2] 99 (0, 0)) h0 gok_none hB (fun _ _ hq => trivial) (fun b3 w4 hB5 hN q1 h2 => ?_)
  clear h0 hB hN
  refine sA 1 5 (fun b => .pointer (some ⟨b, 0, none⟩)) (.cells #[.string (⟨#[]⟩ : ByteArray), .int .i64 0] 42 (0, 0)) h2 gok_none hB5 (fun _ _ hq => trivial) (fun b8 w9 hB10 hN q6 h7 => ?_)
  clear h2 hB5 hN
  refine wpO_end ?_
  have h11 := h7.keep [(5, .pointer (some ⟨b8, 0, none⟩)), (4, .pointer (some ⟨b3, 0, none⟩)), (0, .string s), (2, .pointer (some ⟨bo, 0, none⟩))] ⟨rfl, rfl, rfl, rfl, trivial⟩
  clear h7
  refine then_n ?_
  refine kS ?_
  refine rp 6 ?_
  refine b0 (.C 0 6 <| .X 1 7 0 0 <| .S 2 8 1 0 2 <| .nil) [(8, .agg #[.int .i64 u.1, .int .i64 u.2]), (7, .func (.func 38) #[] #[]), (6, .string s), (5, .pointer (some ⟨b8, 0, none⟩))] h11 ((Kw.nil hB10).cons (hE.below hB10.bel)) fun q12 h13 => ?_
  clear h11
  refine sC 3 9 h13 gok_none (p38 (u.1, u.2) w9) ?_
  rintro _ w16 ⟨rfl, hb17⟩
  have hB18 := hB10.call hb17
  refine ⟨_, rfl, trivial, fun q14 h15 => ?_⟩
  clear h13 hB10 hb17
  refine b0 (.E 4 10 (.agg #[.string s, .int .i64 (hNow (u.1, u.2))]) <| .nil) [(10, .agg #[.string s, .int .i64 (hNow (u.1, u.2))]), (5, .pointer (some ⟨b8, 0, none⟩))] h15 (Kw.nil hB18) fun q19 h20 => ?_
  clear h15
  refine sW 5 0 0 [(b8, .cells #[.string s, .int .i64 (hNow (u.1, u.2))] 42 (0, 0)), (b3, .cells #[.int .i64 u.1, .int .i64 u.2] 99 (0, 0))] h20 gok_none hB18 (.inr fun _ _ => trivial) (fun w23 hB24 hT q21 h22 => ?_)
  clear h20 hB18
  clear hT
  refine wpO_end ?_
  have h25 := h22.keep [(5, .pointer (some ⟨b8, 0, none⟩))] ⟨rfl, trivial⟩
  clear h22
  refine then_n ?_
  refine c_ret (by kernel_rfl) ?_
  refine retC (t := 5) (T := 42) (b := b8) (vs := [.string s, .int .i64 (hNow (u.1, u.2))]) h25 (by kernel_rfl) (by kernel_rfl) hB24 0 (by kernel_rfl) (by kernel_rfl) (by kernel_rfl) ?_
  exact ⟨ret_eq (rfl), hB24.bel⟩

set_option maxHeartbeats 4000000 in
set_option maxRecDepth 20000 in
theorem p42 (s : ByteArray) (p : Pos) (w : World) : Calls Tryz.prog 42 #[.string s, .agg #[.string p.mem, .int .i64 p.paid, .int .i64 p.rcvd]] w fun e w' => e = .returned (eP ⟨s, p.paid, p.rcvd⟩) ∧ Below w.heap.size w w' := by
  refine enter Tryz.func42 (by kernel_rfl) ?_ (by kernel_rfl)
  intro q0 h0
  replace h0 := h0.conv (l' := [(0, .string s), (1, .agg #[.string p.mem, .int .i64 p.paid, .int .i64 p.rcvd])]) rfl
  have hB := Bx.refl w
  refine kS ?_
  refine rp 2 ?_
  refine sA 0 3 (fun b => .pointer (some ⟨b, 0, none⟩)) (.cells #[.string p.mem, .int .i64 p.paid, .int .i64 p.rcvd] 44 (0, 0)) h0 gok_none hB (fun _ _ hq => trivial) (fun b3 w4 hB5 hN q1 h2 => ?_)
  clear h0 hB hN
  refine sA 1 4 (fun b => .pointer (some ⟨b, 0, none⟩)) (.cells #[.string (⟨#[]⟩ : ByteArray), .int .i64 0, .int .i64 0] 44 (0, 0)) h2 gok_none hB5 (fun _ _ hq => trivial) (fun b8 w9 hB10 hN q6 h7 => ?_)
  clear h2 hB5 hN
  refine wpO_end ?_
  have h11 := h7.keep [(4, .pointer (some ⟨b8, 0, none⟩)), (3, .pointer (some ⟨b3, 0, none⟩)), (0, .string s)] ⟨rfl, rfl, rfl, trivial⟩
  clear h7
  refine then_n ?_
  refine kS ?_
  refine rp 3 ?_
  refine b0 (.C 0 5 <| .C 1 6 <| .nil) [(6, .pointer (some ⟨b3, 0, none⟩)), (5, .string s), (4, .pointer (some ⟨b8, 0, none⟩)), (3, .pointer (some ⟨b3, 0, none⟩))] h11 (Kw.nil hB10) fun q12 h13 => ?_
  clear h11
  refine sW 2 1 0 [(b8, .cells #[.string (⟨#[]⟩ : ByteArray), .int .i64 0, .int .i64 0] 44 (0, 0)), (b3, .cells #[.string s, .int .i64 p.paid, .int .i64 p.rcvd] 44 (0, 0))] h13 gok_none hB10 (.inr fun _ _ => trivial) (fun w16 hB17 hT q14 h15 => ?_)
  clear h13 hB10
  clear hT
  refine wpO_end ?_
  have h18 := h15.keep [(4, .pointer (some ⟨b8, 0, none⟩)), (3, .pointer (some ⟨b3, 0, none⟩))] ⟨rfl, rfl, trivial⟩
  clear h15
  refine then_n ?_
  refine kS ?_
  refine rp 2 ?_
  refine b0 (.S 0 7 1 0 3 <| .nil) [(7, .agg #[.string s, .int .i64 p.paid, .int .i64 p.rcvd]), (4, .pointer (some ⟨b8, 0, none⟩))] h18 (Kw.nil hB17) fun q19 h20 => ?_
  clear h18
  refine sW 1 0 0 [(b8, .cells #[.string s, .int .i64 p.paid, .int .i64 p.rcvd] 44 (0, 0)), (b3, .cells #[.string s, .int .i64 p.paid, .int .i64 p.rcvd] 44 (0, 0))] h20 gok_none hB17 (.inr fun _ _ => trivial) (fun w23 hB24 hT q21 h22 => ?_)
  clear h20 hB17
  clear hT
  refine wpO_end ?_
  have h25 := h22.keep [(4, .pointer (some ⟨b8, 0, none⟩))] ⟨rfl, trivial⟩
  clear h22
  refine then_n ?_
  refine c_ret (by kernel_rfl) ?_
  refine retC (t := 4) (T := 44) (b := b8) (vs := [.string s, .int .i64 p.paid, .int .i64 p.rcvd]) h25 (by kernel_rfl) (by kernel_rfl) hB24 0 (by kernel_rfl) (by kernel_rfl) (by kernel_rfl) ?_
  exact ⟨ret_eq (rfl), hB24.bel⟩

end Go.Proofs.YtljegdokbifoiaaGreatDoor.Af

namespace Go.Proofs.YtljegdokbifoiaaGreatDoor.Af
open Go.RowKit
set_option maxHeartbeats 4000000 in
set_option maxRecDepth 20000 in
theorem p65_37 (bo : Nat) (b : Nat) (es : Array MapEntry) (clk : Nat) (M : List (ByteArray × Use)) (w : World) (hn : M.length ≤ 10000) (hkeys : ∀ s ∈ M.map (·.1), s.size ≤ 8) (hE : El w ⟨bo, 0, none⟩ [.func (.func 37) #[] #[]]) (hb : w.heap[b]? = some (.map es clk)) (hM : MapT Tryz.prog 9 eKs eU es clk M) : Calls Tryz.prog 65 #[.map (some b), .func (.func 41) #[] #[], .func (.func 66) #[] #[.pointer (some ⟨bo, 0, none⟩)]] w (fun e w' => ∃ v : Value, e = .returned v ∧ w'.ownsRow w.heap.size 42 2 v (keysS M).length ((keysS M).flatMap (needC hMost M)) ∧ Below w.heap.size w w') := by
  refine enter Tryz.func65 (by kernel_rfl) ?_ (by kernel_rfl)
  intro q0 h0
  replace h0 := h0.conv (l' := [(0, .map (some b)), (1, .func (.func 41) #[] #[]), (2, .func (.func 66) #[] #[.pointer (some ⟨bo, 0, none⟩)])]) rfl
  have hB := Bx.refl w
  refine kS ?_
  refine rp 1 ?_
  refine b0 (.C 0 6 <| .nil) [(6, .slice none 0 0), (0, .map (some b)), (1, .func (.func 41) #[] #[]), (2, .func (.func 66) #[] #[.pointer (some ⟨bo, 0, none⟩)])] h0 (Kw.nil hB) fun q1 h2 => ?_
  clear h0
  refine wpO_end ?_
  refine then_n ?_
  refine kS ?_
  refine rp 1 ?_
  refine b0 (.C 0 7 <| .nil) [(7, .slice none 0 0), (6, .slice none 0 0), (0, .map (some b)), (1, .func (.func 41) #[] #[]), (2, .func (.func 66) #[] #[.pointer (some ⟨bo, 0, none⟩)])] h2 (Kw.nil hB) fun q3 h4 => ?_
  clear h2
  refine wpO_end ?_
  refine then_n ?_
  refine kS ?_
  refine kS ?_
  refine rp 6 ?_
  refine b0 (.C 0 10 <| .nil) [(10, .map (some b)), (7, .slice none 0 0), (6, .slice none 0 0), (0, .map (some b)), (1, .func (.func 41) #[] #[]), (2, .func (.func 66) #[] #[.pointer (some ⟨bo, 0, none⟩)])] h4 (Kw.nil hB) fun q5 h6 => ?_
  clear h4
  refine sC 1 11 h6 gok_none (p89 b w) ?_
  rintro _ w12 ⟨b9, rfl, hl11, hm10, hb13⟩
  have hB14 := hB.call hb13
  refine ⟨_, rfl, trivial, fun q7 h8 => ?_⟩
  clear h6 hB hb13
  refine b0 (.C 2 12 <| .nil) [(12, .func (.func 41) #[] #[]), (11, .func (.func 106) #[] #[.pointer (some ⟨b9, 0, none⟩)]), (7, .slice none 0 0), (6, .slice none 0 0), (0, .map (some b)), (2, .func (.func 66) #[] #[.pointer (some ⟨bo, 0, none⟩)])] h8 (Kw.nil hB14) fun q15 h16 => ?_
  clear h8
  refine sC 3 13 h16 gok_none (p67U b9 b es clk M w12 hn hl11 hm10 ((hB14.bel.block _ (blk_size hb)).trans hb) hM) ?_
  rintro _ w22 ⟨A19, cp20, rfl, ho21, hb23⟩
  have hrk := own_rd' ho21
  have hB24 := hB14.call hb23
  refine ⟨_, rfl, trivial, fun q17 h18 => ?_⟩
  clear h16 hB14 hb23
  have hbl25 := hB24.bel
  have hB26 := Bx.refl w22
  clear hB24
  have hbW := (hbl25.block _ (blk_size hb)).trans hb
  have hkl : (keysS M).length ≤ 10000 := by rw [keysS_len]; exact hn
  refine b0 (.E 4 14 (.int .i64 (((keysS M).length : Nat) : Int)) <| .C 5 15 <| .nil) [(15, .int .i64 0), (14, .int .i64 (((keysS M).length : Nat) : Int)), (13, .slice A19 ((keysS M).length) cp20), (7, .slice none 0 0), (6, .slice none 0 0), (0, .map (some b)), (2, .func (.func 66) #[] #[.pointer (some ⟨bo, 0, none⟩)])] h18 (Kw.nil hB26) fun q27 h28 => ?_
  clear h18
  refine wpO_end ?_
  refine then_n ?_
  refine c_block 0 (by kernel_rfl) ?_
  refine c_loop (by kernel_rfl) (fun qa qw => ∃ k : Nat, ∃ (v : Value), (k ≤ (keysS M).length) ∧ Fr 30 [(13, .slice A19 ((keysS M).length) cp20), (14, .int .i64 (((keysS M).length : Nat) : Int)), (15, .int .i64 ((k : Nat) : Int)), (7, v), (0, .map (some b)), (2, .func (.func 66) #[] #[.pointer (some ⟨bo, 0, none⟩)])] qa ∧ Bx w22 [] qw ∧ (qw.ownsRow w22.heap.size 42 2 v k (((keysS M).take k).flatMap (needC hMost M)))) (fun qa _ => ((((keysS M).length : Int)) - intAt qa 15).toNat) ⟨0, .slice none 0 0, Nat.zero_le _, h28.keep _ ⟨rfl, rfl, rfl, rfl, rfl, rfl, trivial⟩, hB26, own_nil _ _ _ _⟩ ?_
  rintro q29 w30 ⟨k, v, hk33, h31, hB32, hx35⟩
  have hm34 := h31.int (k := 15) (kd := .i64) (z := ((k : Nat) : Int)) rfl
  clear h28 hB26
  refine kS ?_
  refine rp 1 ?_
  refine b0 (.E 0 16 (.bool (decide (((k : Nat) : Int) < (((keysS M).length : Nat) : Int)))) <| .nil) [(16, .bool (decide (((k : Nat) : Int) < (((keysS M).length : Nat) : Int)))), (13, .slice A19 ((keysS M).length) cp20), (14, .int .i64 (((keysS M).length : Nat) : Int)), (15, .int .i64 ((k : Nat) : Int)), (7, v), (0, .map (some b)), (2, .func (.func 66) #[] #[.pointer (some ⟨bo, 0, none⟩)])] h31 (Kw.nil hB32) fun q36 h37 => ?_
  clear h31
  refine wpO_end ?_
  refine then_n ?_
  refine kS ?_
  refine kC 16 (decide (((k : Nat) : Int) < (((keysS M).length : Nat) : Int))) h37 (fun hc38 => ?_) (fun hc38 => ?_)
  ·
    have hp39 : (((k : Nat) : Int) < (((keysS M).length : Nat) : Int)) := of_decide_eq_true hc38
    have hltx : k < (keysS M).length := by omega
    obtain ⟨x, hx⟩ : ∃ x, (keysS M)[k]? = some x := ⟨(keysS M)[k], List.getElem?_eq_getElem hltx⟩
    obtain ⟨ad, hA_, hE0⟩ := hrk.el (k * 1) [eKs x] (by simp) (keyV_el hx)
    subst hA_
    have hkx := hkeys x (keysS_mem (List.mem_of_getElem? hx))
    refine c_skip (by kernel_rfl) ?_
    refine then_n ?_
    refine kS ?_
    refine c_block 1 (by kernel_rfl) ?_
    refine kS ?_
    refine rp 3 ?_
    refine eE 0 17 (.indexAddr 68 (.tmp 13) (.tmp 15)) 0 (.pointer (some ((ad.add (k * 1)).add 0))) h37 (hr := r_index0 (n := (keysS M).length) (c := cp20) (kd := .i64) (by kernel_rfl) (by kernel_rfl) hltx (by kernel_rfl)) fun q40 h41 => ?_
    clear h37
    refine b0 (.X 1 18 0 0 <| .C 2 9 <| .nil) [(9, .string x), (16, .bool (decide (((k : Nat) : Int) < (((keysS M).length : Nat) : Int)))), (13, .slice (some ad) ((keysS M).length) cp20), (14, .int .i64 (((keysS M).length : Nat) : Int)), (15, .int .i64 ((k : Nat) : Int)), (7, v), (0, .map (some b)), (2, .func (.func 66) #[] #[.pointer (some ⟨bo, 0, none⟩)])] h41 ((Kw.nil hB32).cons (hE0.below hB32.bel)) fun q42 h43 => ?_
    clear h41
    refine wpO_end ?_
    refine then_n ?_
    refine rp 10 ?_
    refine b0 (.C 0 19 <| .C 1 20 <| .C 2 21 <| .C 3 22 <| .C 4 23 <| .nil) [(23, .string x), (22, .map (some b)), (21, .string x), (20, .func (.func 66) #[] #[.pointer (some ⟨bo, 0, none⟩)]), (19, v), (9, .string x), (16, .bool (decide (((k : Nat) : Int) < (((keysS M).length : Nat) : Int)))), (13, .slice (some ad) ((keysS M).length) cp20), (14, .int .i64 (((keysS M).length : Nat) : Int)), (15, .int .i64 ((k : Nat) : Int)), (7, v), (0, .map (some b)), (2, .func (.func 66) #[] #[.pointer (some ⟨bo, 0, none⟩)])] h43 (Kw.nil hB32) fun q44 h45 => ?_
    clear h43
    refine eE 5 24 (.lookup 134 (.tmp 22) (.tmp 23) false) 99 (.agg #[.int .i64 ((lkD M x (0, 0)).1), .int .i64 ((lkD M x (0, 0)).2)]) h45 (hr := r_lookupH (k := x) (d := (0, 0)) ((hB32.bel.block _ (blk_size hbW)).trans hbW) hM Kstr eKs_inj (hk_str _ hkx) (by kernel_rfl) Tryz.zeroValue99 rfl rfl) fun q46 h47 => ?_
    clear h45
    refine sC 6 25 h47 gok_none (p66_37 x ((lkD M x (0, 0)).1, (lkD M x (0, 0)).2) bo w30 (hE.below (hbl25.trans (hB32.bel.mono hbl25.size)))) ?_
    rintro _ w50 ⟨rfl, hb51⟩
    have hB52 := hB32.call hb51
    have ho53 := own_below hx35 hb51
    refine ⟨_, rfl, trivial, fun q48 h49 => ?_⟩
    clear h47 hB32 hb51
    refine sA 7 26 (fun b => .slice (some ⟨b, 0, none⟩) 1 1) (.cells #[.string x, .int .i64 (hMost ((lkD M x (0, 0)).1, (lkD M x (0, 0)).2))] 42 (0, 0)) h49 gok_none hB52 (fun _ _ hq => trivial) (fun b56 w57 hB58 hN q54 h55 => ?_)
    have ho59 := own_below ho53 hN
    clear h49 hB52 hN
    have hr68 := Rd.of_blk (hB58.at 0 rfl)
    refine stApp (x := Operand.tmp 19) (y := Operand.tmp 26) (i := 8) (d := 27) (t := 31) (e := 42) (size := 2) (bytes := 24) (base := w22.heap.size) (nn := k) (m := 1) (c := 1) (ty := 31) (g := none) (v := v) (xs := (((keysS M).take k).flatMap (needC hMost M))) (news := [.string x, .int .i64 (hMost ((lkD M x (0, 0)).1, (lkD M x (0, 0)).2))]) (ad := ⟨b56, 0, none⟩) h55 (by kernel_rfl) (by kernel_rfl) (by kernel_rfl) gok_none (by kernel_rfl) (by decide) (by kernel_rfl) (by kernel_rfl) ho59 (by kernel_rfl) (fun j u hj => by obtain ⟨ad', e1, -, h1⟩ := hr68 j u hj; cases e1; exact h1) (by intro u hu; revert u hu; simp only [List.forall_mem_cons]; exact ⟨rfl, rfl, fun _ h => absurd h (by simp)⟩) (by first | (unfold maxLen; omega) | omega) (by first | (unfold maxLen; omega) | omega) hB58.tail hB58.bel.size (Nat.le_refl _) (by kernel_rfl) (fun _ hq => trivial) (fun v62 w63 ho64 hg65 hB66 hz67 q60 h61 => ?_)
    clear h55 hB58 hr68
    refine b0 (.C 9 7 <| .nil) [(7, v62), (9, .string x), (16, .bool (decide (((k : Nat) : Int) < (((keysS M).length : Nat) : Int)))), (13, .slice (some ad) ((keysS M).length) cp20), (14, .int .i64 (((keysS M).length : Nat) : Int)), (15, .int .i64 ((k : Nat) : Int)), (0, .map (some b)), (2, .func (.func 66) #[] #[.pointer (some ⟨bo, 0, none⟩)])] h61 (Kw.nil hB66) fun q69 h70 => ?_
    clear h61
    refine wpO_end ?_
    refine inB_n ?_
    refine then_n ?_
    refine rp 2 ?_
    refine b0 (.E 0 28 (.int .i64 (IntKind.i64.wrap (((k : Nat) : Int) + 1))) <| .C 1 15 <| .nil) [(15, .int .i64 (IntKind.i64.wrap (((k : Nat) : Int) + 1))), (7, v62), (9, .string x), (16, .bool (decide (((k : Nat) : Int) < (((keysS M).length : Nat) : Int)))), (13, .slice (some ad) ((keysS M).length) cp20), (14, .int .i64 (((keysS M).length : Nat) : Int)), (0, .map (some b)), (2, .func (.func 66) #[] #[.pointer (some ⟨bo, 0, none⟩)])] h70 (Kw.nil hB66) fun q71 h72 => ?_
    clear h70
    refine wpO_end ?_
    have h73 := h72.keep [(13, .slice (some ad) ((keysS M).length) cp20), (14, .int .i64 (((keysS M).length : Nat) : Int)), (15, .int .i64 (((k + 1) : Nat) : Int)), (7, v62), (0, .map (some b)), (2, .func (.func 66) #[] #[.pointer (some ⟨bo, 0, none⟩)])] ⟨rfl, rfl, look_int rfl (wrap_succ (by omega)), rfl, rfl, rfl, trivial⟩
    have hm74 := h73.int (k := 15) (kd := .i64) (z := (((k + 1) : Nat) : Int)) rfl
    refine then_n ⟨⟨k + 1, v62, by omega, h73, hB66, (take_flat (needC hMost M) hx).symm ▸ ho64⟩, ?_⟩
    show ((((keysS M).length : Int)) - intAt _ 15).toNat < ((((keysS M).length : Int)) - intAt _ 15).toNat
    rw [hm34, hm74]; omega
  have hp75 : ¬ (((k : Nat) : Int) < (((keysS M).length : Nat) : Int)) := of_decide_eq_false hc38
  refine c_exit 0 (by kernel_rfl) ?_
  refine then_e (then_e (inB_hit ?_))
  refine then_n ?_
  refine kS ?_
  refine rp 2 ?_
  refine b0 (.C 0 29 <| .C 1 6 <| .nil) [(6, v)] h37 (Kw.nil hB32) fun q76 h77 => ?_
  clear h37
  refine wpO_end ?_
  refine then_n ?_
  refine c_ret (by kernel_rfl) ?_
  refine ret1 (t := 6) (v := v) h77 (by kernel_rfl) (by kernel_rfl) ?_
  have hkk : k = (keysS M).length := by omega
  subst hkk
  exact ⟨_, rfl, by have := own_base hx35 hbl25.size; rwa [List.take_length] at this, (hbl25.trans (hB32.bel.mono hbl25.size))⟩

set_option maxHeartbeats 4000000 in
set_option maxRecDepth 20000 in
theorem p65_38 (bo : Nat) (b : Nat) (es : Array MapEntry) (clk : Nat) (M : List (ByteArray × Use)) (w : World) (hn : M.length ≤ 10000) (hkeys : ∀ s ∈ M.map (·.1), s.size ≤ 8) (hE : El w ⟨bo, 0, none⟩ [.func (.func 38) #[] #[]]) (hb : w.heap[b]? = some (.map es clk)) (hM : MapT Tryz.prog 9 eKs eU es clk M) : Calls Tryz.prog 65 #[.map (some b), .func (.func 41) #[] #[], .func (.func 66) #[] #[.pointer (some ⟨bo, 0, none⟩)]] w (fun e w' => ∃ v : Value, e = .returned v ∧ w'.ownsRow w.heap.size 42 2 v (keysS M).length ((keysS M).flatMap (needC hNow M)) ∧ Below w.heap.size w w') := by
  refine enter Tryz.func65 (by kernel_rfl) ?_ (by kernel_rfl)
  intro q0 h0
  replace h0 := h0.conv (l' := [(0, .map (some b)), (1, .func (.func 41) #[] #[]), (2, .func (.func 66) #[] #[.pointer (some ⟨bo, 0, none⟩)])]) rfl
  have hB := Bx.refl w
  refine kS ?_
  refine rp 1 ?_
  refine b0 (.C 0 6 <| .nil) [(6, .slice none 0 0), (0, .map (some b)), (1, .func (.func 41) #[] #[]), (2, .func (.func 66) #[] #[.pointer (some ⟨bo, 0, none⟩)])] h0 (Kw.nil hB) fun q1 h2 => ?_
  clear h0
  refine wpO_end ?_
  refine then_n ?_
  refine kS ?_
  refine rp 1 ?_
  refine b0 (.C 0 7 <| .nil) [(7, .slice none 0 0), (6, .slice none 0 0), (0, .map (some b)), (1, .func (.func 41) #[] #[]), (2, .func (.func 66) #[] #[.pointer (some ⟨bo, 0, none⟩)])] h2 (Kw.nil hB) fun q3 h4 => ?_
  clear h2
  refine wpO_end ?_
  refine then_n ?_
  refine kS ?_
  refine kS ?_
  refine rp 6 ?_
  refine b0 (.C 0 10 <| .nil) [(10, .map (some b)), (7, .slice none 0 0), (6, .slice none 0 0), (0, .map (some b)), (1, .func (.func 41) #[] #[]), (2, .func (.func 66) #[] #[.pointer (some ⟨bo, 0, none⟩)])] h4 (Kw.nil hB) fun q5 h6 => ?_
  clear h4
  refine sC 1 11 h6 gok_none (p89 b w) ?_
  rintro _ w12 ⟨b9, rfl, hl11, hm10, hb13⟩
  have hB14 := hB.call hb13
  refine ⟨_, rfl, trivial, fun q7 h8 => ?_⟩
  clear h6 hB hb13
  refine b0 (.C 2 12 <| .nil) [(12, .func (.func 41) #[] #[]), (11, .func (.func 106) #[] #[.pointer (some ⟨b9, 0, none⟩)]), (7, .slice none 0 0), (6, .slice none 0 0), (0, .map (some b)), (2, .func (.func 66) #[] #[.pointer (some ⟨bo, 0, none⟩)])] h8 (Kw.nil hB14) fun q15 h16 => ?_
  clear h8
  refine sC 3 13 h16 gok_none (p67U b9 b es clk M w12 hn hl11 hm10 ((hB14.bel.block _ (blk_size hb)).trans hb) hM) ?_
  rintro _ w22 ⟨A19, cp20, rfl, ho21, hb23⟩
  have hrk := own_rd' ho21
  have hB24 := hB14.call hb23
  refine ⟨_, rfl, trivial, fun q17 h18 => ?_⟩
  clear h16 hB14 hb23
  have hbl25 := hB24.bel
  have hB26 := Bx.refl w22
  clear hB24
  have hbW := (hbl25.block _ (blk_size hb)).trans hb
  have hkl : (keysS M).length ≤ 10000 := by rw [keysS_len]; exact hn
  refine b0 (.E 4 14 (.int .i64 (((keysS M).length : Nat) : Int)) <| .C 5 15 <| .nil) [(15, .int .i64 0), (14, .int .i64 (((keysS M).length : Nat) : Int)), (13, .slice A19 ((keysS M).length) cp20), (7, .slice none 0 0), (6, .slice none 0 0), (0, .map (some b)), (2, .func (.func 66) #[] #[.pointer (some ⟨bo, 0, none⟩)])] h18 (Kw.nil hB26) fun q27 h28 => ?_
  clear h18
  refine wpO_end ?_
  refine then_n ?_
  refine c_block 0 (by kernel_rfl) ?_
  refine c_loop (by kernel_rfl) (fun qa qw => ∃ k : Nat, ∃ (v : Value), (k ≤ (keysS M).length) ∧ Fr 30 [(13, .slice A19 ((keysS M).length) cp20), (14, .int .i64 (((keysS M).length : Nat) : Int)), (15, .int .i64 ((k : Nat) : Int)), (7, v), (0, .map (some b)), (2, .func (.func 66) #[] #[.pointer (some ⟨bo, 0, none⟩)])] qa ∧ Bx w22 [] qw ∧ (qw.ownsRow w22.heap.size 42 2 v k (((keysS M).take k).flatMap (needC hNow M)))) (fun qa _ => ((((keysS M).length : Int)) - intAt qa 15).toNat) ⟨0, .slice none 0 0, Nat.zero_le _, h28.keep _ ⟨rfl, rfl, rfl, rfl, rfl, rfl, trivial⟩, hB26, own_nil _ _ _ _⟩ ?_
  rintro q29 w30 ⟨k, v, hk33, h31, hB32, hx35⟩
  have hm34 := h31.int (k := 15) (kd := .i64) (z := ((k : Nat) : Int)) rfl
  clear h28 hB26
  refine kS ?_
  refine rp 1 ?_
  refine b0 (.E 0 16 (.bool (decide (((k : Nat) : Int) < (((keysS M).length : Nat) : Int)))) <| .nil) [(16, .bool (decide (((k : Nat) : Int) < (((keysS M).length : Nat) : Int)))), (13, .slice A19 ((keysS M).length) cp20), (14, .int .i64 (((keysS M).length : Nat) : Int)), (15, .int .i64 ((k : Nat) : Int)), (7, v), (0, .map (some b)), (2, .func (.func 66) #[] #[.pointer (some ⟨bo, 0, none⟩)])] h31 (Kw.nil hB32) fun q36 h37 => ?_
  clear h31
  refine wpO_end ?_
  refine then_n ?_
  refine kS ?_
  refine kC 16 (decide (((k : Nat) : Int) < (((keysS M).length : Nat) : Int))) h37 (fun hc38 => ?_) (fun hc38 => ?_)
  ·
    have hp39 : (((k : Nat) : Int) < (((keysS M).length : Nat) : Int)) := of_decide_eq_true hc38
    have hltx : k < (keysS M).length := by omega
    obtain ⟨x, hx⟩ : ∃ x, (keysS M)[k]? = some x := ⟨(keysS M)[k], List.getElem?_eq_getElem hltx⟩
    obtain ⟨ad, hA_, hE0⟩ := hrk.el (k * 1) [eKs x] (by simp) (keyV_el hx)
    subst hA_
    have hkx := hkeys x (keysS_mem (List.mem_of_getElem? hx))
    refine c_skip (by kernel_rfl) ?_
    refine then_n ?_
    refine kS ?_
    refine c_block 1 (by kernel_rfl) ?_
    refine kS ?_
    refine rp 3 ?_
    refine eE 0 17 (.indexAddr 68 (.tmp 13) (.tmp 15)) 0 (.pointer (some ((ad.add (k * 1)).add 0))) h37 (hr := r_index0 (n := (keysS M).length) (c := cp20) (kd := .i64) (by kernel_rfl) (by kernel_rfl) hltx (by kernel_rfl)) fun q40 h41 => ?_
    clear h37
    refine b0 (.X 1 18 0 0 <| .C 2 9 <| .nil) [(9, .string x), (16, .bool (decide (((k : Nat) : Int) < (((keysS M).length : Nat) : Int)))), (13, .slice (some ad) ((keysS M).length) cp20), (14, .int .i64 (((keysS M).length : Nat) : Int)), (15, .int .i64 ((k : Nat) : Int)), (7, v), (0, .map (some b)), (2, .func (.func 66) #[] #[.pointer (some ⟨bo, 0, none⟩)])] h41 ((Kw.nil hB32).cons (hE0.below hB32.bel)) fun q42 h43 => ?_
    clear h41
    refine wpO_end ?_
    refine then_n ?_
    refine rp 10 ?_
    refine b0 (.C 0 19 <| .C 1 20 <| .C 2 21 <| .C 3 22 <| .C 4 23 <| .nil) [(23, .string x), (22, .map (some b)), (21, .string x), (20, .func (.func 66) #[] #[.pointer (some ⟨bo, 0, none⟩)]), (19, v), (9, .string x), (16, .bool (decide (((k : Nat) : Int) < (((keysS M).length : Nat) : Int)))), (13, .slice (some ad) ((keysS M).length) cp20), (14, .int .i64 (((keysS M).length : Nat) : Int)), (15, .int .i64 ((k : Nat) : Int)), (7, v), (0, .map (some b)), (2, .func (.func 66) #[] #[.pointer (some ⟨bo, 0, none⟩)])] h43 (Kw.nil hB32) fun q44 h45 => ?_
    clear h43
    refine eE 5 24 (.lookup 134 (.tmp 22) (.tmp 23) false) 99 (.agg #[.int .i64 ((lkD M x (0, 0)).1), .int .i64 ((lkD M x (0, 0)).2)]) h45 (hr := r_lookupH (k := x) (d := (0, 0)) ((hB32.bel.block _ (blk_size hbW)).trans hbW) hM Kstr eKs_inj (hk_str _ hkx) (by kernel_rfl) Tryz.zeroValue99 rfl rfl) fun q46 h47 => ?_
    clear h45
    refine sC 6 25 h47 gok_none (p66_38 x ((lkD M x (0, 0)).1, (lkD M x (0, 0)).2) bo w30 (hE.below (hbl25.trans (hB32.bel.mono hbl25.size)))) ?_
    rintro _ w50 ⟨rfl, hb51⟩
    have hB52 := hB32.call hb51
    have ho53 := own_below hx35 hb51
    refine ⟨_, rfl, trivial, fun q48 h49 => ?_⟩
    clear h47 hB32 hb51
    refine sA 7 26 (fun b => .slice (some ⟨b, 0, none⟩) 1 1) (.cells #[.string x, .int .i64 (hNow ((lkD M x (0, 0)).1, (lkD M x (0, 0)).2))] 42 (0, 0)) h49 gok_none hB52 (fun _ _ hq => trivial) (fun b56 w57 hB58 hN q54 h55 => ?_)
    have ho59 := own_below ho53 hN
    clear h49 hB52 hN
    have hr68 := Rd.of_blk (hB58.at 0 rfl)
    refine stApp (x := Operand.tmp 19) (y := Operand.tmp 26) (i := 8) (d := 27) (t := 31) (e := 42) (size := 2) (bytes := 24) (base := w22.heap.size) (nn := k) (m := 1) (c := 1) (ty := 31) (g := none) (v := v) (xs := (((keysS M).take k).flatMap (needC hNow M))) (news := [.string x, .int .i64 (hNow ((lkD M x (0, 0)).1, (lkD M x (0, 0)).2))]) (ad := ⟨b56, 0, none⟩) h55 (by kernel_rfl) (by kernel_rfl) (by kernel_rfl) gok_none (by kernel_rfl) (by decide) (by kernel_rfl) (by kernel_rfl) ho59 (by kernel_rfl) (fun j u hj => by obtain ⟨ad', e1, -, h1⟩ := hr68 j u hj; cases e1; exact h1) (by intro u hu; revert u hu; simp only [List.forall_mem_cons]; exact ⟨rfl, rfl, fun _ h => absurd h (by simp)⟩) (by first | (unfold maxLen; omega) | omega) (by first | (unfold maxLen; omega) | omega) hB58.tail hB58.bel.size (Nat.le_refl _) (by kernel_rfl) (fun _ hq => trivial) (fun v62 w63 ho64 hg65 hB66 hz67 q60 h61 => ?_)
    clear h55 hB58 hr68
    refine b0 (.C 9 7 <| .nil) [(7, v62), (9, .string x), (16, .bool (decide (((k : Nat) : Int) < (((keysS M).length : Nat) : Int)))), (13, .slice (some ad) ((keysS M).length) cp20), (14, .int .i64 (((keysS M).length : Nat) : Int)), (15, .int .i64 ((k : Nat) : Int)), (0, .map (some b)), (2, .func (.func 66) #[] #[.pointer (some ⟨bo, 0, none⟩)])] h61 (Kw.nil hB66) fun q69 h70 => ?_
    clear h61
    refine wpO_end ?_
    refine inB_n ?_
    refine then_n ?_
    refine rp 2 ?_
    refine b0 (.E 0 28 (.int .i64 (IntKind.i64.wrap (((k : Nat) : Int) + 1))) <| .C 1 15 <| .nil) [(15, .int .i64 (IntKind.i64.wrap (((k : Nat) : Int) + 1))), (7, v62), (9, .string x), (16, .bool (decide (((k : Nat) : Int) < (((keysS M).length : Nat) : Int)))), (13, .slice (some ad) ((keysS M).length) cp20), (14, .int .i64 (((keysS M).length : Nat) : Int)), (0, .map (some b)), (2, .func (.func 66) #[] #[.pointer (some ⟨bo, 0, none⟩)])] h70 (Kw.nil hB66) fun q71 h72 => ?_
    clear h70
    refine wpO_end ?_
    have h73 := h72.keep [(13, .slice (some ad) ((keysS M).length) cp20), (14, .int .i64 (((keysS M).length : Nat) : Int)), (15, .int .i64 (((k + 1) : Nat) : Int)), (7, v62), (0, .map (some b)), (2, .func (.func 66) #[] #[.pointer (some ⟨bo, 0, none⟩)])] ⟨rfl, rfl, look_int rfl (wrap_succ (by omega)), rfl, rfl, rfl, trivial⟩
    have hm74 := h73.int (k := 15) (kd := .i64) (z := (((k + 1) : Nat) : Int)) rfl
    refine then_n ⟨⟨k + 1, v62, by omega, h73, hB66, (take_flat (needC hNow M) hx).symm ▸ ho64⟩, ?_⟩
    show ((((keysS M).length : Int)) - intAt _ 15).toNat < ((((keysS M).length : Int)) - intAt _ 15).toNat
    rw [hm34, hm74]; omega
  have hp75 : ¬ (((k : Nat) : Int) < (((keysS M).length : Nat) : Int)) := of_decide_eq_false hc38
  refine c_exit 0 (by kernel_rfl) ?_
  refine then_e (then_e (inB_hit ?_))
  refine then_n ?_
  refine kS ?_
  refine rp 2 ?_
  refine b0 (.C 0 29 <| .C 1 6 <| .nil) [(6, v)] h37 (Kw.nil hB32) fun q76 h77 => ?_
  clear h37
  refine wpO_end ?_
  refine then_n ?_
  refine c_ret (by kernel_rfl) ?_
  refine ret1 (t := 6) (v := v) h77 (by kernel_rfl) (by kernel_rfl) ?_
  have hkk : k = (keysS M).length := by omega
  subst hkk
  exact ⟨_, rfl, by have := own_base hx35 hbl25.size; rwa [List.take_length] at this, (hbl25.trans (hB32.bel.mono hbl25.size))⟩

set_option maxHeartbeats 4000000 in
set_option maxRecDepth 20000 in
theorem p40 (b : Nat) (es : Array MapEntry) (clk : Nat) (M : List (ByteArray × Pos)) (w : World) (hn : M.length ≤ 10000) (hkeys : ∀ s ∈ M.map (·.1), s.size ≤ 8) (hb : w.heap[b]? = some (.map es clk)) (hM : MapT Tryz.prog 9 eKs eP es clk M) : Calls Tryz.prog 40 #[.map (some b), .func (.func 41) #[] #[], .func (.func 42) #[] #[]] w (fun e w' => ∃ v : Value, e = .returned v ∧ w'.ownsRow w.heap.size 44 3 v (keysS M).length ((keysS M).flatMap (posC M)) ∧ Below w.heap.size w w') := by
  refine enter Tryz.func40 (by kernel_rfl) ?_ (by kernel_rfl)
  intro q0 h0
  replace h0 := h0.conv (l' := [(0, .map (some b)), (1, .func (.func 41) #[] #[]), (2, .func (.func 42) #[] #[])]) rfl
  have hB := Bx.refl w
  refine kS ?_
  refine rp 1 ?_
  refine b0 (.C 0 6 <| .nil) [(6, .slice none 0 0), (0, .map (some b)), (1, .func (.func 41) #[] #[]), (2, .func (.func 42) #[] #[])] h0 (Kw.nil hB) fun q1 h2 => ?_
  clear h0
  refine wpO_end ?_
  refine then_n ?_
  refine kS ?_
  refine rp 1 ?_
  refine b0 (.C 0 7 <| .nil) [(7, .slice none 0 0), (6, .slice none 0 0), (0, .map (some b)), (1, .func (.func 41) #[] #[]), (2, .func (.func 42) #[] #[])] h2 (Kw.nil hB) fun q3 h4 => ?_
  clear h2
  refine wpO_end ?_
  refine then_n ?_
  refine kS ?_
  refine kS ?_
  refine rp 6 ?_
  refine b0 (.C 0 10 <| .nil) [(10, .map (some b)), (7, .slice none 0 0), (6, .slice none 0 0), (0, .map (some b)), (1, .func (.func 41) #[] #[]), (2, .func (.func 42) #[] #[])] h4 (Kw.nil hB) fun q5 h6 => ?_
  clear h4
  refine sC 1 11 h6 gok_none (p68 b w) ?_
  rintro _ w12 ⟨b9, rfl, hl11, hm10, hb13⟩
  have hB14 := hB.call hb13
  refine ⟨_, rfl, trivial, fun q7 h8 => ?_⟩
  clear h6 hB hb13
  refine b0 (.C 2 12 <| .nil) [(12, .func (.func 41) #[] #[]), (11, .func (.func 92) #[] #[.pointer (some ⟨b9, 0, none⟩)]), (7, .slice none 0 0), (6, .slice none 0 0), (0, .map (some b)), (2, .func (.func 42) #[] #[])] h8 (Kw.nil hB14) fun q15 h16 => ?_
  clear h8
  refine sC 3 13 h16 gok_none (p67P b9 b es clk M w12 hn hl11 hm10 ((hB14.bel.block _ (blk_size hb)).trans hb) hM) ?_
  rintro _ w22 ⟨A19, cp20, rfl, ho21, hb23⟩
  have hrk := own_rd' ho21
  have hB24 := hB14.call hb23
  refine ⟨_, rfl, trivial, fun q17 h18 => ?_⟩
  clear h16 hB14 hb23
  have hbl25 := hB24.bel
  have hB26 := Bx.refl w22
  clear hB24
  have hbW := (hbl25.block _ (blk_size hb)).trans hb
  have hkl : (keysS M).length ≤ 10000 := by rw [keysS_len]; exact hn
  refine b0 (.E 4 14 (.int .i64 (((keysS M).length : Nat) : Int)) <| .C 5 15 <| .nil) [(15, .int .i64 0), (14, .int .i64 (((keysS M).length : Nat) : Int)), (13, .slice A19 ((keysS M).length) cp20), (7, .slice none 0 0), (6, .slice none 0 0), (0, .map (some b)), (2, .func (.func 42) #[] #[])] h18 (Kw.nil hB26) fun q27 h28 => ?_
  clear h18
  refine wpO_end ?_
  refine then_n ?_
  refine c_block 0 (by kernel_rfl) ?_
  refine c_loop (by kernel_rfl) (fun qa qw => ∃ k : Nat, ∃ (v : Value), (k ≤ (keysS M).length) ∧ Fr 30 [(13, .slice A19 ((keysS M).length) cp20), (14, .int .i64 (((keysS M).length : Nat) : Int)), (15, .int .i64 ((k : Nat) : Int)), (7, v), (0, .map (some b)), (2, .func (.func 42) #[] #[])] qa ∧ Bx w22 [] qw ∧ (qw.ownsRow w22.heap.size 44 3 v k (((keysS M).take k).flatMap (posC M)))) (fun qa _ => ((((keysS M).length : Int)) - intAt qa 15).toNat) ⟨0, .slice none 0 0, Nat.zero_le _, h28.keep _ ⟨rfl, rfl, rfl, rfl, rfl, rfl, trivial⟩, hB26, own_nil _ _ _ _⟩ ?_
  rintro q29 w30 ⟨k, v, hk33, h31, hB32, hx35⟩
  have hm34 := h31.int (k := 15) (kd := .i64) (z := ((k : Nat) : Int)) rfl
  clear h28 hB26
  refine kS ?_
  refine rp 1 ?_
  refine b0 (.E 0 16 (.bool (decide (((k : Nat) : Int) < (((keysS M).length : Nat) : Int)))) <| .nil) [(16, .bool (decide (((k : Nat) : Int) < (((keysS M).length : Nat) : Int)))), (13, .slice A19 ((keysS M).length) cp20), (14, .int .i64 (((keysS M).length : Nat) : Int)), (15, .int .i64 ((k : Nat) : Int)), (7, v), (0, .map (some b)), (2, .func (.func 42) #[] #[])] h31 (Kw.nil hB32) fun q36 h37 => ?_
  clear h31
  refine wpO_end ?_
  refine then_n ?_
  refine kS ?_
  refine kC 16 (decide (((k : Nat) : Int) < (((keysS M).length : Nat) : Int))) h37 (fun hc38 => ?_) (fun hc38 => ?_)
  ·
    have hp39 : (((k : Nat) : Int) < (((keysS M).length : Nat) : Int)) := of_decide_eq_true hc38
    have hltx : k < (keysS M).length := by omega
    obtain ⟨x, hx⟩ : ∃ x, (keysS M)[k]? = some x := ⟨(keysS M)[k], List.getElem?_eq_getElem hltx⟩
    obtain ⟨ad, hA_, hE0⟩ := hrk.el (k * 1) [eKs x] (by simp) (keyV_el hx)
    subst hA_
    have hkx := hkeys x (keysS_mem (List.mem_of_getElem? hx))
    refine c_skip (by kernel_rfl) ?_
    refine then_n ?_
    refine kS ?_
    refine c_block 1 (by kernel_rfl) ?_
    refine kS ?_
    refine rp 3 ?_
    refine eE 0 17 (.indexAddr 68 (.tmp 13) (.tmp 15)) 0 (.pointer (some ((ad.add (k * 1)).add 0))) h37 (hr := r_index0 (n := (keysS M).length) (c := cp20) (kd := .i64) (by kernel_rfl) (by kernel_rfl) hltx (by kernel_rfl)) fun q40 h41 => ?_
    clear h37
    refine b0 (.X 1 18 0 0 <| .C 2 9 <| .nil) [(9, .string x), (16, .bool (decide (((k : Nat) : Int) < (((keysS M).length : Nat) : Int)))), (13, .slice (some ad) ((keysS M).length) cp20), (14, .int .i64 (((keysS M).length : Nat) : Int)), (15, .int .i64 ((k : Nat) : Int)), (7, v), (0, .map (some b)), (2, .func (.func 42) #[] #[])] h41 ((Kw.nil hB32).cons (hE0.below hB32.bel)) fun q42 h43 => ?_
    clear h41
    refine wpO_end ?_
    refine then_n ?_
    refine rp 10 ?_
    refine b0 (.C 0 19 <| .C 1 20 <| .C 2 21 <| .C 3 22 <| .C 4 23 <| .nil) [(23, .string x), (22, .map (some b)), (21, .string x), (20, .func (.func 42) #[] #[]), (19, v), (9, .string x), (16, .bool (decide (((k : Nat) : Int) < (((keysS M).length : Nat) : Int)))), (13, .slice (some ad) ((keysS M).length) cp20), (14, .int .i64 (((keysS M).length : Nat) : Int)), (15, .int .i64 ((k : Nat) : Int)), (7, v), (0, .map (some b)), (2, .func (.func 42) #[] #[])] h43 (Kw.nil hB32) fun q44 h45 => ?_
    clear h43
    refine eE 5 24 (.lookup 102 (.tmp 22) (.tmp 23) false) 44 (.agg #[.string ((lkD M x Pos.z).mem), .int .i64 ((lkD M x Pos.z).paid), .int .i64 ((lkD M x Pos.z).rcvd)]) h45 (hr := r_lookupH (k := x) (d := Pos.z) ((hB32.bel.block _ (blk_size hbW)).trans hbW) hM Kstr eKs_inj (hk_str _ hkx) (by kernel_rfl) Tryz.zeroValue44 rfl rfl) fun q46 h47 => ?_
    clear h45
    refine sC 6 25 h47 gok_none (p42 x ⟨(lkD M x Pos.z).mem, (lkD M x Pos.z).paid, (lkD M x Pos.z).rcvd⟩ w30) ?_
    rintro _ w50 ⟨rfl, hb51⟩
    have hB52 := hB32.call hb51
    have ho53 := own_below hx35 hb51
    refine ⟨_, rfl, trivial, fun q48 h49 => ?_⟩
    clear h47 hB32 hb51
    refine sA 7 26 (fun b => .slice (some ⟨b, 0, none⟩) 1 1) (.cells #[.string x, .int .i64 ((lkD M x Pos.z).paid), .int .i64 ((lkD M x Pos.z).rcvd)] 44 (0, 0)) h49 gok_none hB52 (fun _ _ hq => trivial) (fun b56 w57 hB58 hN q54 h55 => ?_)
    have ho59 := own_below ho53 hN
    clear h49 hB52 hN
    have hr68 := Rd.of_blk (hB58.at 0 rfl)
    refine stApp (x := Operand.tmp 19) (y := Operand.tmp 26) (i := 8) (d := 27) (t := 35) (e := 44) (size := 3) (bytes := 32) (base := w22.heap.size) (nn := k) (m := 1) (c := 1) (ty := 35) (g := none) (v := v) (xs := (((keysS M).take k).flatMap (posC M))) (news := [.string x, .int .i64 ((lkD M x Pos.z).paid), .int .i64 ((lkD M x Pos.z).rcvd)]) (ad := ⟨b56, 0, none⟩) h55 (by kernel_rfl) (by kernel_rfl) (by kernel_rfl) gok_none (by kernel_rfl) (by decide) (by kernel_rfl) (by kernel_rfl) ho59 (by kernel_rfl) (fun j u hj => by obtain ⟨ad', e1, -, h1⟩ := hr68 j u hj; cases e1; exact h1) (by intro u hu; revert u hu; simp only [List.forall_mem_cons]; exact ⟨rfl, rfl, rfl, fun _ h => absurd h (by simp)⟩) (by first | (unfold maxLen; omega) | omega) (by first | (unfold maxLen; omega) | omega) hB58.tail hB58.bel.size (Nat.le_refl _) (by kernel_rfl) (fun _ hq => trivial) (fun v62 w63 ho64 hg65 hB66 hz67 q60 h61 => ?_)
    clear h55 hB58 hr68
    refine b0 (.C 9 7 <| .nil) [(7, v62), (9, .string x), (16, .bool (decide (((k : Nat) : Int) < (((keysS M).length : Nat) : Int)))), (13, .slice (some ad) ((keysS M).length) cp20), (14, .int .i64 (((keysS M).length : Nat) : Int)), (15, .int .i64 ((k : Nat) : Int)), (0, .map (some b)), (2, .func (.func 42) #[] #[])] h61 (Kw.nil hB66) fun q69 h70 => ?_
    clear h61
    refine wpO_end ?_
    refine inB_n ?_
    refine then_n ?_
    refine rp 2 ?_
    refine b0 (.E 0 28 (.int .i64 (IntKind.i64.wrap (((k : Nat) : Int) + 1))) <| .C 1 15 <| .nil) [(15, .int .i64 (IntKind.i64.wrap (((k : Nat) : Int) + 1))), (7, v62), (9, .string x), (16, .bool (decide (((k : Nat) : Int) < (((keysS M).length : Nat) : Int)))), (13, .slice (some ad) ((keysS M).length) cp20), (14, .int .i64 (((keysS M).length : Nat) : Int)), (0, .map (some b)), (2, .func (.func 42) #[] #[])] h70 (Kw.nil hB66) fun q71 h72 => ?_
    clear h70
    refine wpO_end ?_
    have h73 := h72.keep [(13, .slice (some ad) ((keysS M).length) cp20), (14, .int .i64 (((keysS M).length : Nat) : Int)), (15, .int .i64 (((k + 1) : Nat) : Int)), (7, v62), (0, .map (some b)), (2, .func (.func 42) #[] #[])] ⟨rfl, rfl, look_int rfl (wrap_succ (by omega)), rfl, rfl, rfl, trivial⟩
    have hm74 := h73.int (k := 15) (kd := .i64) (z := (((k + 1) : Nat) : Int)) rfl
    refine then_n ⟨⟨k + 1, v62, by omega, h73, hB66, (take_flat (posC M) hx).symm ▸ ho64⟩, ?_⟩
    show ((((keysS M).length : Int)) - intAt _ 15).toNat < ((((keysS M).length : Int)) - intAt _ 15).toNat
    rw [hm34, hm74]; omega
  have hp75 : ¬ (((k : Nat) : Int) < (((keysS M).length : Nat) : Int)) := of_decide_eq_false hc38
  refine c_exit 0 (by kernel_rfl) ?_
  refine then_e (then_e (inB_hit ?_))
  refine then_n ?_
  refine kS ?_
  refine rp 2 ?_
  refine b0 (.C 0 29 <| .C 1 6 <| .nil) [(6, v)] h37 (Kw.nil hB32) fun q76 h77 => ?_
  clear h37
  refine wpO_end ?_
  refine then_n ?_
  refine c_ret (by kernel_rfl) ?_
  refine ret1 (t := 6) (v := v) h77 (by kernel_rfl) (by kernel_rfl) ?_
  have hkk : k = (keysS M).length := by omega
  subst hkk
  exact ⟨_, rfl, by have := own_base hx35 hbl25.size; rwa [List.take_length] at this, (hbl25.trans (hB32.bel.mono hbl25.size))⟩

end Go.Proofs.YtljegdokbifoiaaGreatDoor.Af

namespace Go.Proofs.YtljegdokbifoiaaGreatDoor.Af
open Go.RowKit
def nKeys {ν : Type} (e : Int) (M : List (ByteArray × ν)) : List ByteArray := bif e != 0 then [] else keysS M
theorem use_keys {l : List Ins} (h : ∀ i ∈ l, PayOK i) : ∀ (M : List (ByteArray × Use)), (∀ s ∈ M.map (·.1), s.size ≤ 8) → ∀ s ∈ (useA l M).map (·.1), s.size ≤ 8 := by
  induction l with
  | nil => intro M hM; exact hM
  | cons i l ih =>
    intro M hM
    refine ih (fun j hj => h j (List.mem_cons_of_mem _ hj)) (useS M i) fun s hs => ?_
    have hi := h i (List.mem_cons_self ..)
    unfold useS at hs
    rw [updK_keys_mem, updK_keys_mem] at hs
    rcases hs with rfl | rfl | hs
    · exact (memB_size hi.cpt).1
    · exact (memB_size hi.snd).1
    · exact hM s hs
theorem pos_keys {l : List Ins} (h : ∀ i ∈ l, PayOK i) : ∀ (M : List (ByteArray × Pos)), (∀ s ∈ M.map (·.1), s.size ≤ 8) → ∀ s ∈ (posA l M).map (·.1), s.size ≤ 8 := by
  induction l with
  | nil => intro M hM; exact hM
  | cons i l ih =>
    intro M hM
    refine ih (fun j hj => h j (List.mem_cons_of_mem _ hj)) (posS M i) fun s hs => ?_
    have hi := h i (List.mem_cons_self ..)
    unfold posS at hs
    rw [updK_keys_mem, updK_keys_mem] at hs
    rcases hs with rfl | rfl | hs
    · exact (memB_size hi.cpt).1
    · exact (memB_size hi.snd).1
    · exact hM s hs
theorem mid_keys {ν : Type} {a b c : ν} (h : a = b) (k : b = c) : a = c := h.trans k

set_option maxHeartbeats 4000000 in
set_option maxRecDepth 20000 in
theorem p36_37 (l : List InA) (A : Option Addr) (c : Nat) (w : World) (hn : l.length ≤ 5000) (hr : Rd w A (insc l)) (hl : Lr w l) : Calls Tryz.prog 36 #[.slice A l.length c, .func (.func 37) #[] #[]] w (fun e w' => ∃ v : Value, e = .returned (.tuple #[v, .int .i64 (allE (l.map (·.1)))]) ∧ w'.ownsRow w.heap.size 42 2 v (nKeys (allE (l.map (·.1))) (useA (l.map (·.1)) [])).length ((nKeys (allE (l.map (·.1))) (useA (l.map (·.1)) [])).flatMap (needC hMost (useA (l.map (·.1)) []))) ∧ Below w.heap.size w w') := by
  refine enter Tryz.func36 (by kernel_rfl) ?_ (by kernel_rfl)
  intro q0 h0
  replace h0 := h0.conv (l' := [(0, .slice A l.length c), (1, .func (.func 37) #[] #[])]) rfl
  have hB := Bx.refl w
  refine kS ?_
  refine rp 3 ?_
  refine sA 0 3 (fun b => .pointer (some ⟨b, 0, none⟩)) (.cells #[.func (.func 37) #[] #[]] 100 (0, 0)) h0 gok_none hB (fun _ _ hq => trivial) (fun b3 w4 hB5 hN q1 h2 => ?_)
  clear h0 hB hN
  refine b0 (.C 1 4 <| .C 2 5 <| .nil) [(5, .int .i64 0), (4, .slice none 0 0), (3, .pointer (some ⟨b3, 0, none⟩)), (0, .slice A l.length c)] h2 (Kw.nil hB5) fun q6 h7 => ?_
  clear h2
  refine wpO_end ?_
  refine then_n ?_
  refine kS ?_
  refine kS ?_
  refine rp 3 ?_
  refine b0 (.C 0 12 <| .nil) [(12, .slice A l.length c), (5, .int .i64 0), (4, .slice none 0 0), (3, .pointer (some ⟨b3, 0, none⟩)), (0, .slice A l.length c)] h7 (Kw.nil hB5) fun q8 h9 => ?_
  clear h7
  refine sC 1 13 h9 gok_none (p39 l A c w4 hn (hr.below hB5.bel) (hl.below hB5.bel)) ?_
  rintro _ w12 ⟨rfl, hb13⟩
  have hB14 := hB5.call hb13
  refine ⟨_, rfl, trivial, fun q10 h11 => ?_⟩
  clear h9 hB5 hb13
  refine b0 (.C 2 6 <| .nil) [(6, .int .i64 (allE (l.map (·.1)))), (5, .int .i64 0), (4, .slice none 0 0), (3, .pointer (some ⟨b3, 0, none⟩)), (0, .slice A l.length c)] h11 (Kw.nil hB14) fun q15 h16 => ?_
  clear h11
  refine wpO_end ?_
  refine then_n ?_
  refine kS ?_
  refine rp 2 ?_
  refine b0 (.C 0 14 <| .E 1 15 (.bool (allE (l.map (·.1)) != (0 : Int))) <| .nil) [(15, .bool (allE (l.map (·.1)) != (0 : Int))), (6, .int .i64 (allE (l.map (·.1)))), (5, .int .i64 0), (4, .slice none 0 0), (3, .pointer (some ⟨b3, 0, none⟩)), (0, .slice A l.length c)] h16 (Kw.nil hB14) fun q17 h18 => ?_
  clear h16
  refine wpO_end ?_
  refine then_n ?_
  refine kC 15 (allE (l.map (·.1)) != (0 : Int)) h18 (fun hc19 => ?_) (fun hc19 => ?_)
  ·
    refine kS ?_
    refine rp 3 ?_
    refine b0 (.C 0 16 <| .C 1 4 <| .C 2 5 <| .nil) [(5, .int .i64 (allE (l.map (·.1)))), (4, .slice none 0 0), (3, .pointer (some ⟨b3, 0, none⟩)), (0, .slice A l.length c)] h18 (Kw.nil hB14) fun q20 h21 => ?_
    clear h18
    refine wpO_end ?_
    refine then_n ?_
    refine c_ret (by kernel_rfl) ?_
    refine then_r ?_
    refine ret2 (t := 4) (u := 5) (v := .slice none 0 0) (v' := .int .i64 (allE (l.map (·.1)))) h21 (by kernel_rfl) (by kernel_rfl) (by kernel_rfl) ?_
    refine ⟨_, rfl, ?_, hB14.bel⟩
    unfold nKeys; rw [hc19]; exact own_nil _ _ _ _
  have hok := all_ok (l := l.map (·.1)) (by simpa using hc19)
  refine c_skip (by kernel_rfl) ?_
  refine then_n ?_
  refine kS ?_
  refine rp 2 ?_
  refine sA 0 17 (fun b => .map (some b)) (.map #[] 0) h18 gok_none hB14 (fun _ _ hq => trivial) (fun b24 w25 hB26 hN q22 h23 => ?_)
  clear h18 hB14 hN
  refine b0 (.C 1 7 <| .nil) [(7, .map (some b24)), (5, .int .i64 0), (4, .slice none 0 0), (3, .pointer (some ⟨b3, 0, none⟩)), (0, .slice A l.length c)] h23 (Kw.nil hB26) fun q27 h28 => ?_
  clear h23
  refine wpO_end ?_
  refine then_n ?_
  refine kS ?_
  refine kS ?_
  refine rp 3 ?_
  refine b0 (.C 0 18 <| .E 1 19 (.int .i64 ((l.length : Nat) : Int)) <| .C 2 20 <| .nil) [(20, .int .i64 0), (19, .int .i64 ((l.length : Nat) : Int)), (18, .slice A l.length c), (7, .map (some b24)), (5, .int .i64 0), (4, .slice none 0 0), (3, .pointer (some ⟨b3, 0, none⟩))] h28 (Kw.nil hB26) fun q29 h30 => ?_
  clear h28
  refine wpO_end ?_
  refine then_n ?_
  refine c_block 0 (by kernel_rfl) ?_
  refine c_loop (by kernel_rfl) (fun qa qw => ∃ k : Nat, ∃ (es : Array MapEntry) (clk : Nat) (M : List (ByteArray × Use)), (k ≤ l.length) ∧ Fr 62 [(18, .slice A l.length c), (19, .int .i64 ((l.length : Nat) : Int)), (20, .int .i64 ((k : Nat) : Int)), (7, .map (some b24)), (3, .pointer (some ⟨b3, 0, none⟩))] qa ∧ Bx w [(b24, .map es clk), (b3, .cells #[.func (.func 37) #[] #[]] 100 (0, 0))] qw ∧ (MapT Tryz.prog 9 eKs eU es clk M) ∧ (useA (l.map (·.1)) [] = useA ((l.drop k).map (·.1)) M)) (fun qa _ => (((l.length : Int)) - intAt qa 20).toNat) ⟨0, _, _, [], Nat.zero_le _, h30.keep _ ⟨rfl, rfl, rfl, rfl, rfl, trivial⟩, hB26, (MapT.empty : MapT Tryz.prog 9 eKs eU #[] 0 []), rfl⟩ ?_
  rintro q31 w32 ⟨k, es, clk, M, hk35, h33, hB34, hx37, hx38⟩
  have hm36 := h33.int (k := 20) (kd := .i64) (z := ((k : Nat) : Int)) rfl
  clear h30 hB26
  refine kS ?_
  refine rp 1 ?_
  refine b0 (.E 0 21 (.bool (decide (((k : Nat) : Int) < ((l.length : Nat) : Int)))) <| .nil) [(21, .bool (decide (((k : Nat) : Int) < ((l.length : Nat) : Int)))), (18, .slice A l.length c), (19, .int .i64 ((l.length : Nat) : Int)), (20, .int .i64 ((k : Nat) : Int)), (7, .map (some b24)), (3, .pointer (some ⟨b3, 0, none⟩))] h33 (Kw.nil hB34) fun q39 h40 => ?_
  clear h33
  refine wpO_end ?_
  refine then_n ?_
  refine kS ?_
  refine kC 21 (decide (((k : Nat) : Int) < ((l.length : Nat) : Int))) h40 (fun hc41 => ?_) (fun hc41 => ?_)
  ·
    have hp42 : (((k : Nat) : Int) < ((l.length : Nat) : Int)) := of_decide_eq_true hc41
    have hltx : k < l.length := by omega
    obtain ⟨x, hx⟩ : ∃ x, l[k]? = some x := ⟨l[k], List.getElem?_eq_getElem hltx⟩
    obtain ⟨ad, hA_, hE0⟩ := hr.el (k * 16) (inC x) (by intro h; cases h) (insc_el l k x hx)
    subst hA_
    obtain ⟨hcx, hnx, hrx⟩ := hl x (List.mem_of_getElem? hx)
    have hpx := hok x.1 (List.mem_map.2 ⟨x, List.mem_of_getElem? hx, rfl⟩)
    refine c_skip (by kernel_rfl) ?_
    refine then_n ?_
    refine kS ?_
    refine c_block 1 (by kernel_rfl) ?_
    refine kS ?_
    refine rp 4 ?_
    refine eE 0 22 (.indexAddr 23 (.tmp 18) (.tmp 20)) 0 (.pointer (some ((ad.add (k * 16)).add 0))) h40 (hr := r_index0 (n := l.length) (c := c) (kd := .i64) (by kernel_rfl) (by kernel_rfl) hltx (by kernel_rfl)) fun q43 h44 => ?_
    clear h40
    refine b0 (.Y 1 23 0 0 16 <| .nil) [(23, insV x.1 x.2.1 x.2.2), (21, .bool (decide (((k : Nat) : Int) < ((l.length : Nat) : Int)))), (18, .slice (some ad) l.length c), (19, .int .i64 ((l.length : Nat) : Int)), (20, .int .i64 ((k : Nat) : Int)), (7, .map (some b24)), (3, .pointer (some ⟨b3, 0, none⟩))] h44 ((Kw.nil hB34).cons (hE0.below hB34.bel)) fun q45 h46 => ?_
    clear h44
    refine sA 2 9 (fun b => .pointer (some ⟨b, 0, none⟩)) (.cells #[.string (⟨#[]⟩ : ByteArray), .int .i64 0, .string (⟨#[]⟩ : ByteArray), .string (⟨#[]⟩ : ByteArray), .int .i64 0, .string (⟨#[]⟩ : ByteArray), .int .i64 0, .int .i64 0, .int .i64 0, .int .i64 0, .int .i64 0, .bool false, .int .i64 0, .bool false, .bool false, .slice none 0 0] 30 (0, 0)) h46 gok_none hB34 (fun _ _ hq => trivial) (fun b49 w50 hB51 hN q47 h48 => ?_)
    clear h46 hB34 hN
    refine sW 3 0 0 [(b49, .cells (insV x.1 x.2.1 x.2.2).cells 30 (0, 0)), (b24, .map es clk), (b3, .cells #[.func (.func 37) #[] #[]] 100 (0, 0))] h48 gok_none hB51 (.inr fun _ _ => trivial) (fun w54 hB55 hT q52 h53 => ?_)
    clear h48 hB51
    clear hT
    refine wpO_end ?_
    have h56 := h53.keep [(9, .pointer (some ⟨b49, 0, none⟩)), (21, .bool (decide (((k : Nat) : Int) < ((l.length : Nat) : Int)))), (18, .slice (some ad) l.length c), (19, .int .i64 ((l.length : Nat) : Int)), (20, .int .i64 ((k : Nat) : Int)), (7, .map (some b24)), (3, .pointer (some ⟨b3, 0, none⟩))] ⟨rfl, rfl, rfl, rfl, rfl, rfl, rfl, trivial⟩
    clear h53
    refine then_n ?_
    refine kS ?_
    refine c_cut (fun qa qw => ∃ (b77 : Nat) (b82 : Nat), Fr 62 [(11, .pointer (some ⟨b82, 0, none⟩)), (10, .pointer (some ⟨b77, 0, none⟩)), (9, .pointer (some ⟨b49, 0, none⟩)), (21, .bool (decide (((k : Nat) : Int) < ((l.length : Nat) : Int)))), (18, .slice (some ad) l.length c), (19, .int .i64 ((l.length : Nat) : Int)), (20, .int .i64 ((k : Nat) : Int)), (7, .map (some b24)), (3, .pointer (some ⟨b3, 0, none⟩))] qa ∧ Bx w [(b82, .cells #[.int .i64 ((lkD M x.1.cpty (0, 0)).1), .int .i64 ((lkD M x.1.cpty (0, 0)).2)] 99 (0, 0)), (b77, .cells #[.int .i64 ((lkD M x.1.sender (0, 0)).1), .int .i64 ((lkD M x.1.sender (0, 0)).2)] 99 (0, 0)), (b49, .cells (insV x.1 x.2.1 x.2.2).cells 30 (0, 0)), (b24, .map es clk), (b3, .cells #[.func (.func 37) #[] #[]] 100 (0, 0))] qw) ?_ ?_
    ·
      have hD93 := hB55.drew
      refine reg_plan (S := Bx w [(b49, .cells (insV x.1 x.2.1 x.2.2).cells 30 (0, 0)), (b24, .map es clk), (b3, .cells #[.func (.func 37) #[] #[]] 100 (0, 0))]) 12 [⟨0, true, 0, 128, 16777216⟩, ⟨1, true, 0, 512, 33554432⟩, ⟨2, true, 2, 33554432, 67108864⟩, ⟨3, true, 5, 83886080, 134217728⟩, ⟨4, true, 0, 128, 268435456⟩, ⟨5, true, 0, 512, 536870912⟩, ⟨6, true, 32, 536870912, 1073741824⟩, ⟨7, true, 80, 1342177280, 2147483648⟩, ⟨8, false, 0, 0, 1024⟩, ⟨9, false, 0, 0, 2048⟩, ⟨10, false, 783, 134218752, 0⟩, ⟨11, false, 2047, 2147485696, 0⟩] (.free ⟨0, true, 0, 128, 16777216⟩ (.free ⟨1, true, 0, 512, 33554432⟩ (.free ⟨2, true, 2, 33554432, 67108864⟩ (.free ⟨3, true, 5, 83886080, 134217728⟩ (.free ⟨4, true, 0, 128, 268435456⟩ (.free ⟨5, true, 0, 512, 536870912⟩ (.free ⟨6, true, 32, 536870912, 1073741824⟩ (.free ⟨7, true, 80, 1342177280, 2147483648⟩ (.alt ⟨8, false, 0, 0, 1024⟩ (.alt ⟨9, false, 0, 0, 2048⟩ (.alt ⟨10, false, 783, 134218752, 0⟩ (.alt ⟨11, false, 2047, 2147485696, 0⟩ (.done) (.none)) (.none)) (.none)) (.alt ⟨9, false, 0, 0, 2048⟩ (.alt ⟨8, false, 0, 0, 1024⟩ (.alt ⟨10, false, 783, 134218752, 0⟩ (.alt ⟨11, false, 2047, 2147485696, 0⟩ (.done) (.none)) (.none)) (.none)) (.none))))))))))) (by kernel_rfl) (by kernel_rfl) (by kernel_rfl) (fun _ _ _ _ h => absurd h.2 (by simp)) hD93 ?_
      generalize World.drew w54 = w94 at hD93 ⊢
      refine p_free ?_
      refine fE 0 24 (.move (.tmp 7)) 134 (.map (some b24)) h56 fun q95 h96 => ?_
      clear h56
      refine wpO_end ?_
      refine cut_n ?_
      refine p_free ?_
      refine fE 1 25 (.fieldAddr 30 (.tmp 9) 2) 0 (.pointer (some ⟨b49, 2, none⟩)) h96 fun q97 h98 => ?_
      clear h96
      refine wpO_end ?_
      refine cut_n ?_
      refine p_free ?_
      refine fE 2 26 (.load 9 (.tmp 25)) 9 (.string x.1.sender) h98 (hr := fun _ hS => r_loadC (b := b49) (v := .string x.1.sender) hS 0 2 (by kernel_rfl) (by kernel_rfl) (by kernel_rfl)) fun q99 h100 => ?_
      clear h98
      refine wpO_end ?_
      refine cut_n ?_
      refine p_free ?_
      refine fE 3 27 (.lookup 134 (.tmp 24) (.tmp 26) false) 99 (.agg #[.int .i64 ((lkD M x.1.sender (0, 0)).1), .int .i64 ((lkD M x.1.sender (0, 0)).2)]) h100 (hr := fun _ hS => r_lookup hS 1 (k := x.1.sender) (d := (0, 0)) rfl hx37 Kstr eKs_inj (hk_str _ (memB_size hpx.snd).1) (by kernel_rfl) Tryz.zeroValue99 rfl rfl) fun q101 h102 => ?_
      clear h100
      refine wpO_end ?_
      refine cut_n ?_
      refine p_free ?_
      refine fE 4 28 (.move (.tmp 7)) 134 (.map (some b24)) h102 fun q103 h104 => ?_
      clear h102
      refine wpO_end ?_
      refine cut_n ?_
      refine p_free ?_
      refine fE 5 29 (.fieldAddr 30 (.tmp 9) 3) 0 (.pointer (some ⟨b49, 3, none⟩)) h104 fun q105 h106 => ?_
      clear h104
      refine wpO_end ?_
      refine cut_n ?_
      refine p_free ?_
      refine fE 6 30 (.load 9 (.tmp 29)) 9 (.string x.1.cpty) h106 (hr := fun _ hS => r_loadC (b := b49) (v := .string x.1.cpty) hS 0 3 (by kernel_rfl) (by kernel_rfl) (by kernel_rfl)) fun q107 h108 => ?_
      clear h106
      refine wpO_end ?_
      refine cut_n ?_
      refine p_free ?_
      refine fE 7 31 (.lookup 134 (.tmp 28) (.tmp 30) false) 99 (.agg #[.int .i64 ((lkD M x.1.cpty (0, 0)).1), .int .i64 ((lkD M x.1.cpty (0, 0)).2)]) h108 (hr := fun _ hS => r_lookup hS 1 (k := x.1.cpty) (d := (0, 0)) rfl hx37 Kstr eKs_inj (hk_str _ (memB_size hpx.cpt).1) (by kernel_rfl) Tryz.zeroValue99 rfl rfl) fun q109 h110 => ?_
      clear h108
      refine wpO_end ?_
      refine cut_n ?_
      refine p_alt ?_ ?_
      ·
        refine sA 8 10 (fun b => .pointer (some ⟨b, 0, none⟩)) (.cells #[.int .i64 0, .int .i64 0] 99 (0, 0)) h110 gok_none hD93 (fun _ _ hq => hq.tail) (fun b113 w114 hB115 hN q111 h112 => ?_)
        clear h110 hD93 hN
        refine wpO_end ?_
        refine cut_n ?_
        refine p_alt ?_ ?_
        ·
          refine sA 9 11 (fun b => .pointer (some ⟨b, 0, none⟩)) (.cells #[.int .i64 0, .int .i64 0] 99 (0, 0)) h112 gok_none hB115 (fun _ _ hq => hq.tail.tail) (fun b118 w119 hB120 hN q116 h117 => ?_)
          clear h112 hB115 hN
          refine wpO_end ?_
          refine cut_n ?_
          refine p_alt ?_ ?_
          ·
            refine sW 10 1 0 [(b118, .cells #[.int .i64 0, .int .i64 0] 99 (0, 0)), (b113, .cells #[.int .i64 ((lkD M x.1.sender (0, 0)).1), .int .i64 ((lkD M x.1.sender (0, 0)).2)] 99 (0, 0)), (b49, .cells (insV x.1 x.2.1 x.2.2).cells 30 (0, 0)), (b24, .map es clk), (b3, .cells #[.func (.func 37) #[] #[]] 100 (0, 0))] h117 gok_none hB120 (.inr fun _ hq => hq.tail.tail) (fun w123 hB124 hT q121 h122 => ?_)
            clear h117 hB120
            clear hT
            refine wpO_end ?_
            refine cut_n ?_
            refine p_alt ?_ ?_
            ·
              refine sW 11 0 0 [(b118, .cells #[.int .i64 ((lkD M x.1.cpty (0, 0)).1), .int .i64 ((lkD M x.1.cpty (0, 0)).2)] 99 (0, 0)), (b113, .cells #[.int .i64 ((lkD M x.1.sender (0, 0)).1), .int .i64 ((lkD M x.1.sender (0, 0)).2)] 99 (0, 0)), (b49, .cells (insV x.1 x.2.1 x.2.2).cells 30 (0, 0)), (b24, .map es clk), (b3, .cells #[.func (.func 37) #[] #[]] 100 (0, 0))] h122 gok_none hB124 (.inr fun _ hq => hq.tail.tail) (fun w127 hB128 hT q125 h126 => ?_)
              clear h122 hB124
              clear hT
              refine wpO_end ?_
              refine cut_n ?_
              refine p_done ?_
              exact cut_n ⟨b113, b118, h126.keep _ ⟨rfl, rfl, rfl, rfl, rfl, rfl, rfl, rfl, rfl, trivial⟩, hB128.sel [0, 1, 2, 3, 4] (by decide) rfl⟩
            exact p_none
          exact p_none
        exact p_none
      refine p_alt ?_ ?_
      ·
        refine sA 9 11 (fun b => .pointer (some ⟨b, 0, none⟩)) (.cells #[.int .i64 0, .int .i64 0] 99 (0, 0)) h110 gok_none hD93 (fun _ _ hq => hq.tail) (fun b131 w132 hB133 hN q129 h130 => ?_)
        clear h110 hD93 hN
        refine wpO_end ?_
        refine cut_n ?_
        refine p_alt ?_ ?_
        ·
          refine sA 8 10 (fun b => .pointer (some ⟨b, 0, none⟩)) (.cells #[.int .i64 0, .int .i64 0] 99 (0, 0)) h130 gok_none hB133 (fun _ _ hq => hq.tail.tail) (fun b136 w137 hB138 hN q134 h135 => ?_)
          clear h130 hB133 hN
          refine wpO_end ?_
          refine cut_n ?_
          refine p_alt ?_ ?_
          ·
            refine sW 10 0 0 [(b136, .cells #[.int .i64 ((lkD M x.1.sender (0, 0)).1), .int .i64 ((lkD M x.1.sender (0, 0)).2)] 99 (0, 0)), (b131, .cells #[.int .i64 0, .int .i64 0] 99 (0, 0)), (b49, .cells (insV x.1 x.2.1 x.2.2).cells 30 (0, 0)), (b24, .map es clk), (b3, .cells #[.func (.func 37) #[] #[]] 100 (0, 0))] h135 gok_none hB138 (.inr fun _ hq => hq.tail.tail) (fun w141 hB142 hT q139 h140 => ?_)
            clear h135 hB138
            clear hT
            refine wpO_end ?_
            refine cut_n ?_
            refine p_alt ?_ ?_
            ·
              refine sW 11 1 0 [(b136, .cells #[.int .i64 ((lkD M x.1.sender (0, 0)).1), .int .i64 ((lkD M x.1.sender (0, 0)).2)] 99 (0, 0)), (b131, .cells #[.int .i64 ((lkD M x.1.cpty (0, 0)).1), .int .i64 ((lkD M x.1.cpty (0, 0)).2)] 99 (0, 0)), (b49, .cells (insV x.1 x.2.1 x.2.2).cells 30 (0, 0)), (b24, .map es clk), (b3, .cells #[.func (.func 37) #[] #[]] 100 (0, 0))] h140 gok_none hB142 (.inr fun _ hq => hq.tail.tail) (fun w145 hB146 hT q143 h144 => ?_)
              clear h140 hB142
              clear hT
              refine wpO_end ?_
              refine cut_n ?_
              refine p_done ?_
              exact cut_n ⟨b136, b131, h144.keep _ ⟨rfl, rfl, rfl, rfl, rfl, rfl, rfl, rfl, rfl, trivial⟩, hB146.sel [1, 0, 2, 3, 4] (by decide) rfl⟩
            exact p_none
          exact p_none
        exact p_none
      exact p_none
    rintro q147 w148 ⟨b77, b82, h149, hB150⟩
    refine then_n ?_
    refine kS ?_
    refine rp 7 ?_
    refine b0 (.C 0 32 <| .L 1 33 1 0 <| .C 2 34 <| .L 3 35 2 7 <| .E 4 36 (.int .i64 (IntKind.i64.wrap (((lkD M x.1.sender (0, 0)).1) + x.1.amt))) <| .C 5 37 <| .nil) [(37, .pointer (some ⟨b77, 0, none⟩)), (36, .int .i64 (IntKind.i64.wrap (((lkD M x.1.sender (0, 0)).1) + x.1.amt))), (11, .pointer (some ⟨b82, 0, none⟩)), (10, .pointer (some ⟨b77, 0, none⟩)), (9, .pointer (some ⟨b49, 0, none⟩)), (21, .bool (decide (((k : Nat) : Int) < ((l.length : Nat) : Int)))), (18, .slice (some ad) l.length c), (19, .int .i64 ((l.length : Nat) : Int)), (20, .int .i64 ((k : Nat) : Int)), (7, .map (some b24)), (3, .pointer (some ⟨b3, 0, none⟩))] h149 (Kw.nil hB150) fun q151 h152 => ?_
    clear h149
    refine sW 6 1 0 [(b82, .cells #[.int .i64 ((lkD M x.1.cpty (0, 0)).1), .int .i64 ((lkD M x.1.cpty (0, 0)).2)] 99 (0, 0)), (b77, .cells #[.int .i64 (IntKind.i64.wrap (((lkD M x.1.sender (0, 0)).1) + x.1.amt)), .int .i64 ((lkD M x.1.sender (0, 0)).2)] 99 (0, 0)), (b49, .cells (insV x.1 x.2.1 x.2.2).cells 30 (0, 0)), (b24, .map es clk), (b3, .cells #[.func (.func 37) #[] #[]] 100 (0, 0))] h152 gok_none hB150 (.inr fun _ _ => trivial) (fun w155 hB156 hT q153 h154 => ?_)
    clear h152 hB150
    clear hT
    refine wpO_end ?_
    have h157 := h154.keep [(11, .pointer (some ⟨b82, 0, none⟩)), (10, .pointer (some ⟨b77, 0, none⟩)), (9, .pointer (some ⟨b49, 0, none⟩)), (21, .bool (decide (((k : Nat) : Int) < ((l.length : Nat) : Int)))), (18, .slice (some ad) l.length c), (19, .int .i64 ((l.length : Nat) : Int)), (20, .int .i64 ((k : Nat) : Int)), (7, .map (some b24)), (3, .pointer (some ⟨b3, 0, none⟩))] ⟨rfl, rfl, rfl, rfl, rfl, rfl, rfl, rfl, rfl, trivial⟩
    clear h154
    refine then_n ?_
    refine kS ?_
    refine rp 7 ?_
    refine b0 (.C 0 38 <| .L 1 39 1 1 <| .C 2 40 <| .L 3 41 1 0 <| .E 4 42 (.int .i64 (if (lkD M x.1.sender (0, 0)).2 < IntKind.i64.wrap (((lkD M x.1.sender (0, 0)).1) + x.1.amt) then IntKind.i64.wrap (((lkD M x.1.sender (0, 0)).1) + x.1.amt) else (lkD M x.1.sender (0, 0)).2)) <| .C 5 43 <| .nil) [(43, .pointer (some ⟨b77, 1, none⟩)), (42, .int .i64 (if (lkD M x.1.sender (0, 0)).2 < IntKind.i64.wrap (((lkD M x.1.sender (0, 0)).1) + x.1.amt) then IntKind.i64.wrap (((lkD M x.1.sender (0, 0)).1) + x.1.amt) else (lkD M x.1.sender (0, 0)).2)), (11, .pointer (some ⟨b82, 0, none⟩)), (10, .pointer (some ⟨b77, 0, none⟩)), (9, .pointer (some ⟨b49, 0, none⟩)), (21, .bool (decide (((k : Nat) : Int) < ((l.length : Nat) : Int)))), (18, .slice (some ad) l.length c), (19, .int .i64 ((l.length : Nat) : Int)), (20, .int .i64 ((k : Nat) : Int)), (7, .map (some b24)), (3, .pointer (some ⟨b3, 0, none⟩))] h157 (Kw.nil hB156) fun q158 h159 => ?_
    clear h157
    refine sW 6 1 1 [(b82, .cells #[.int .i64 ((lkD M x.1.cpty (0, 0)).1), .int .i64 ((lkD M x.1.cpty (0, 0)).2)] 99 (0, 0)), (b77, .cells #[.int .i64 (IntKind.i64.wrap (((lkD M x.1.sender (0, 0)).1) + x.1.amt)), .int .i64 (if (lkD M x.1.sender (0, 0)).2 < IntKind.i64.wrap (((lkD M x.1.sender (0, 0)).1) + x.1.amt) then IntKind.i64.wrap (((lkD M x.1.sender (0, 0)).1) + x.1.amt) else (lkD M x.1.sender (0, 0)).2)] 99 (0, 0)), (b49, .cells (insV x.1 x.2.1 x.2.2).cells 30 (0, 0)), (b24, .map es clk), (b3, .cells #[.func (.func 37) #[] #[]] 100 (0, 0))] h159 gok_none hB156 (.inr fun _ _ => trivial) (fun w162 hB163 hT q160 h161 => ?_)
    clear h159 hB156
    clear hT
    refine wpO_end ?_
    have h164 := h161.keep [(11, .pointer (some ⟨b82, 0, none⟩)), (10, .pointer (some ⟨b77, 0, none⟩)), (9, .pointer (some ⟨b49, 0, none⟩)), (21, .bool (decide (((k : Nat) : Int) < ((l.length : Nat) : Int)))), (18, .slice (some ad) l.length c), (19, .int .i64 ((l.length : Nat) : Int)), (20, .int .i64 ((k : Nat) : Int)), (7, .map (some b24)), (3, .pointer (some ⟨b3, 0, none⟩))] ⟨rfl, rfl, rfl, rfl, rfl, rfl, rfl, rfl, rfl, trivial⟩
    clear h161
    refine then_n ?_
    refine kS ?_
    refine rp 7 ?_
    refine b0 (.C 0 44 <| .L 1 45 0 0 <| .C 2 46 <| .L 3 47 2 7 <| .E 4 48 (.int .i64 (IntKind.i64.wrap (((lkD M x.1.cpty (0, 0)).1) - x.1.amt))) <| .C 5 49 <| .nil) [(49, .pointer (some ⟨b82, 0, none⟩)), (48, .int .i64 (IntKind.i64.wrap (((lkD M x.1.cpty (0, 0)).1) - x.1.amt))), (11, .pointer (some ⟨b82, 0, none⟩)), (10, .pointer (some ⟨b77, 0, none⟩)), (9, .pointer (some ⟨b49, 0, none⟩)), (21, .bool (decide (((k : Nat) : Int) < ((l.length : Nat) : Int)))), (18, .slice (some ad) l.length c), (19, .int .i64 ((l.length : Nat) : Int)), (20, .int .i64 ((k : Nat) : Int)), (7, .map (some b24)), (3, .pointer (some ⟨b3, 0, none⟩))] h164 (Kw.nil hB163) fun q165 h166 => ?_
    clear h164
    refine sW 6 0 0 [(b82, .cells #[.int .i64 (IntKind.i64.wrap (((lkD M x.1.cpty (0, 0)).1) - x.1.amt)), .int .i64 ((lkD M x.1.cpty (0, 0)).2)] 99 (0, 0)), (b77, .cells #[.int .i64 (IntKind.i64.wrap (((lkD M x.1.sender (0, 0)).1) + x.1.amt)), .int .i64 (if (lkD M x.1.sender (0, 0)).2 < IntKind.i64.wrap (((lkD M x.1.sender (0, 0)).1) + x.1.amt) then IntKind.i64.wrap (((lkD M x.1.sender (0, 0)).1) + x.1.amt) else (lkD M x.1.sender (0, 0)).2)] 99 (0, 0)), (b49, .cells (insV x.1 x.2.1 x.2.2).cells 30 (0, 0)), (b24, .map es clk), (b3, .cells #[.func (.func 37) #[] #[]] 100 (0, 0))] h166 gok_none hB163 (.inr fun _ _ => trivial) (fun w169 hB170 hT q167 h168 => ?_)
    clear h166 hB163
    clear hT
    refine wpO_end ?_
    have h171 := h168.keep [(11, .pointer (some ⟨b82, 0, none⟩)), (10, .pointer (some ⟨b77, 0, none⟩)), (9, .pointer (some ⟨b49, 0, none⟩)), (21, .bool (decide (((k : Nat) : Int) < ((l.length : Nat) : Int)))), (18, .slice (some ad) l.length c), (19, .int .i64 ((l.length : Nat) : Int)), (20, .int .i64 ((k : Nat) : Int)), (7, .map (some b24)), (3, .pointer (some ⟨b3, 0, none⟩))] ⟨rfl, rfl, rfl, rfl, rfl, rfl, rfl, rfl, rfl, trivial⟩
    clear h168
    refine then_n ?_
    have hB172 : Bx w [(b24, .map es clk), (b82, .cells #[.int .i64 (IntKind.i64.wrap (((lkD M x.1.cpty (0, 0)).1) - x.1.amt)), .int .i64 ((lkD M x.1.cpty (0, 0)).2)] 99 (0, 0)), (b77, .cells #[.int .i64 (IntKind.i64.wrap (((lkD M x.1.sender (0, 0)).1) + x.1.amt)), .int .i64 (if (lkD M x.1.sender (0, 0)).2 < IntKind.i64.wrap (((lkD M x.1.sender (0, 0)).1) + x.1.amt) then IntKind.i64.wrap (((lkD M x.1.sender (0, 0)).1) + x.1.amt) else (lkD M x.1.sender (0, 0)).2)] 99 (0, 0)), (b49, .cells (insV x.1 x.2.1 x.2.2).cells 30 (0, 0)), (b3, .cells #[.func (.func 37) #[] #[]] 100 (0, 0))] w169 := hB170.sel [3, 0, 1, 2, 4] (by decide) rfl
    clear hB170
    have hD173 := hB172.drew
    refine rd (Bx w [(b82, .cells #[.int .i64 (IntKind.i64.wrap (((lkD M x.1.cpty (0, 0)).1) - x.1.amt)), .int .i64 ((lkD M x.1.cpty (0, 0)).2)] 99 (0, 0)), (b77, .cells #[.int .i64 (IntKind.i64.wrap (((lkD M x.1.sender (0, 0)).1) + x.1.amt)), .int .i64 (if (lkD M x.1.sender (0, 0)).2 < IntKind.i64.wrap (((lkD M x.1.sender (0, 0)).1) + x.1.amt) then IntKind.i64.wrap (((lkD M x.1.sender (0, 0)).1) + x.1.amt) else (lkD M x.1.sender (0, 0)).2)] 99 (0, 0)), (b49, .cells (insV x.1 x.2.1 x.2.2).cells 30 (0, 0)), (b3, .cells #[.func (.func 37) #[] #[]] 100 (0, 0))]) 10 [⟨0, true, 0, 128, 1125899906842624⟩, ⟨1, true, 0, 512, 2251799813685248⟩, ⟨2, true, 2, 2251799813685248, 4503599627370496⟩, ⟨3, true, 0, 128, 9007199254740992⟩, ⟨4, true, 0, 512, 18014398509481984⟩, ⟨5, true, 16, 18014398509481984, 36028797018963968⟩, ⟨6, true, 0, 1024, 72057594037927936⟩, ⟨7, true, 0, 2048, 144115188075855872⟩, ⟨8, false, 71, 77687093572141056, 0⟩, ⟨9, false, 511, 189151184349560832, 0⟩] hD173.tail ?_
    generalize World.drew w169 = w174 at hD173 ⊢
    refine d0 (.C 0 50 <| .C 1 51 <| .L 2 52 2 2 <| .C 3 53 <| .C 4 54 <| .L 5 55 2 3 <| .S 6 56 1 0 2 <| .S 7 57 0 0 2 <| .nil) [(57, .agg #[.int .i64 (IntKind.i64.wrap (((lkD M x.1.cpty (0, 0)).1) - x.1.amt)), .int .i64 ((lkD M x.1.cpty (0, 0)).2)]), (56, .agg #[.int .i64 (IntKind.i64.wrap (((lkD M x.1.sender (0, 0)).1) + x.1.amt)), .int .i64 (if (lkD M x.1.sender (0, 0)).2 < IntKind.i64.wrap (((lkD M x.1.sender (0, 0)).1) + x.1.amt) then IntKind.i64.wrap (((lkD M x.1.sender (0, 0)).1) + x.1.amt) else (lkD M x.1.sender (0, 0)).2)]), (55, .string x.1.cpty), (53, .map (some b24)), (52, .string x.1.sender), (50, .map (some b24)), (11, .pointer (some ⟨b82, 0, none⟩)), (10, .pointer (some ⟨b77, 0, none⟩)), (9, .pointer (some ⟨b49, 0, none⟩)), (21, .bool (decide (((k : Nat) : Int) < ((l.length : Nat) : Int)))), (18, .slice (some ad) l.length c), (19, .int .i64 ((l.length : Nat) : Int)), (20, .int .i64 ((k : Nat) : Int)), (7, .map (some b24)), (3, .pointer (some ⟨b3, 0, none⟩))] h171 (fun _ hS => Kw.nil hS) fun q175 h176 => ?_
    clear h171
    refine sMU (et := 99) (t := 134) (x := (Operand.tmp 50)) (y := (Operand.tmp 52)) (z := (Operand.tmp 56)) (ty := 0) 8 0 (k := x.1.sender) (v := (IntKind.i64.wrap (((lkD M x.1.sender (0, 0)).1) + x.1.amt), if (lkD M x.1.sender (0, 0)).2 < IntKind.i64.wrap (((lkD M x.1.sender (0, 0)).1) + x.1.amt) then IntKind.i64.wrap (((lkD M x.1.sender (0, 0)).1) + x.1.amt) else (lkD M x.1.sender (0, 0)).2)) (eV := eU) h176 hD173 rfl hx37 Kstr eKs_inj (hk_str _ (memB_size hpx.snd).1) (by kernel_rfl) (by kernel_rfl) (by kernel_rfl) rfl rfl rfl (fun _ _ _ hq => .inr (hq.tail)) (fun es179 clk180 w181 hM182 hB183 hP184 q177 h178 => ?_)
    clear h176 hD173
    replace hB183 : Bx w [(b24, .map es179 clk180), (b82, .cells #[.int .i64 (IntKind.i64.wrap (((lkD M x.1.cpty (0, 0)).1) - x.1.amt)), .int .i64 ((lkD M x.1.cpty (0, 0)).2)] 99 (0, 0)), (b77, .cells #[.int .i64 (IntKind.i64.wrap (((lkD M x.1.sender (0, 0)).1) + x.1.amt)), .int .i64 (if (lkD M x.1.sender (0, 0)).2 < IntKind.i64.wrap (((lkD M x.1.sender (0, 0)).1) + x.1.amt) then IntKind.i64.wrap (((lkD M x.1.sender (0, 0)).1) + x.1.amt) else (lkD M x.1.sender (0, 0)).2)] 99 (0, 0)), (b49, .cells (insV x.1 x.2.1 x.2.2).cells 30 (0, 0)), (b3, .cells #[.func (.func 37) #[] #[]] 100 (0, 0))] w181 := hB183
    clear hP184
    refine sMU (et := 99) (t := 134) (x := (Operand.tmp 53)) (y := (Operand.tmp 55)) (z := (Operand.tmp 57)) (ty := 0) 9 0 (k := x.1.cpty) (v := (IntKind.i64.wrap (((lkD M x.1.cpty (0, 0)).1) - x.1.amt), (lkD M x.1.cpty (0, 0)).2)) (eV := eU) h178 hB183 rfl hM182 Kstr eKs_inj (hk_str _ (memB_size hpx.cpt).1) (by kernel_rfl) (by kernel_rfl) (by kernel_rfl) rfl rfl rfl (fun _ _ _ hq => .inr (hq.tail)) (fun es187 clk188 w189 hM190 hB191 hP192 q185 h186 => ?_)
    clear h178 hB183
    replace hB191 : Bx w [(b24, .map es187 clk188), (b82, .cells #[.int .i64 (IntKind.i64.wrap (((lkD M x.1.cpty (0, 0)).1) - x.1.amt)), .int .i64 ((lkD M x.1.cpty (0, 0)).2)] 99 (0, 0)), (b77, .cells #[.int .i64 (IntKind.i64.wrap (((lkD M x.1.sender (0, 0)).1) + x.1.amt)), .int .i64 (if (lkD M x.1.sender (0, 0)).2 < IntKind.i64.wrap (((lkD M x.1.sender (0, 0)).1) + x.1.amt) then IntKind.i64.wrap (((lkD M x.1.sender (0, 0)).1) + x.1.amt) else (lkD M x.1.sender (0, 0)).2)] 99 (0, 0)), (b49, .cells (insV x.1 x.2.1 x.2.2).cells 30 (0, 0)), (b3, .cells #[.func (.func 37) #[] #[]] 100 (0, 0))] w189 := hB191
    clear hP192
    refine wpO_end ?_
    have h193 := h186.keep [(11, .pointer (some ⟨b82, 0, none⟩)), (10, .pointer (some ⟨b77, 0, none⟩)), (9, .pointer (some ⟨b49, 0, none⟩)), (21, .bool (decide (((k : Nat) : Int) < ((l.length : Nat) : Int)))), (18, .slice (some ad) l.length c), (19, .int .i64 ((l.length : Nat) : Int)), (20, .int .i64 ((k : Nat) : Int)), (7, .map (some b24)), (3, .pointer (some ⟨b3, 0, none⟩))] ⟨rfl, rfl, rfl, rfl, rfl, rfl, rfl, rfl, rfl, trivial⟩
    clear h186
    refine inB_n ?_
    refine then_n ?_
    refine rp 2 ?_
    refine b0 (.E 0 58 (.int .i64 (IntKind.i64.wrap (((k : Nat) : Int) + 1))) <| .C 1 20 <| .nil) [(20, .int .i64 (IntKind.i64.wrap (((k : Nat) : Int) + 1))), (11, .pointer (some ⟨b82, 0, none⟩)), (10, .pointer (some ⟨b77, 0, none⟩)), (9, .pointer (some ⟨b49, 0, none⟩)), (21, .bool (decide (((k : Nat) : Int) < ((l.length : Nat) : Int)))), (18, .slice (some ad) l.length c), (19, .int .i64 ((l.length : Nat) : Int)), (7, .map (some b24)), (3, .pointer (some ⟨b3, 0, none⟩))] h193 (Kw.nil hB191) fun q194 h195 => ?_
    clear h193
    refine wpO_end ?_
    have hB196 : Bx w [(b82, .cells #[.int .i64 (IntKind.i64.wrap (((lkD M x.1.cpty (0, 0)).1) - x.1.amt)), .int .i64 ((lkD M x.1.cpty (0, 0)).2)] 99 (0, 0)), (b77, .cells #[.int .i64 (IntKind.i64.wrap (((lkD M x.1.sender (0, 0)).1) + x.1.amt)), .int .i64 (if (lkD M x.1.sender (0, 0)).2 < IntKind.i64.wrap (((lkD M x.1.sender (0, 0)).1) + x.1.amt) then IntKind.i64.wrap (((lkD M x.1.sender (0, 0)).1) + x.1.amt) else (lkD M x.1.sender (0, 0)).2)] 99 (0, 0)), (b49, .cells (insV x.1 x.2.1 x.2.2).cells 30 (0, 0)), (b24, .map es187 clk188), (b3, .cells #[.func (.func 37) #[] #[]] 100 (0, 0))] w189 := hB191.sel [1, 2, 3, 0, 4] (by decide) rfl
    clear hB191
    have h197 := h195.keep [(18, .slice (some ad) l.length c), (19, .int .i64 ((l.length : Nat) : Int)), (20, .int .i64 (((k + 1) : Nat) : Int)), (7, .map (some b24)), (3, .pointer (some ⟨b3, 0, none⟩))] ⟨rfl, rfl, look_int rfl (wrap_succ (by omega)), rfl, rfl, trivial⟩
    have hm198 := h197.int (k := 20) (kd := .i64) (z := (((k + 1) : Nat) : Int)) rfl
    refine then_n ⟨⟨k + 1, es187, clk188, useS M x.1, by omega, h197, hB196.tail.tail.tail, hM190, hx38.trans (useA_at hx M)⟩, ?_⟩
    show (((l.length : Int)) - intAt _ 20).toNat < (((l.length : Int)) - intAt _ 20).toNat
    rw [hm36, hm198]; omega
  have hp199 : ¬ (((k : Nat) : Int) < ((l.length : Nat) : Int)) := of_decide_eq_false hc41
  refine c_exit 0 (by kernel_rfl) ?_
  refine then_e (then_e (inB_hit ?_))
  refine then_n ?_
  refine kS ?_
  refine rp 5 ?_
  refine b0 (.C 0 59 <| .E 1 60 (.func (.func 66) #[] #[.pointer (some ⟨b3, 0, none⟩)]) <| .nil) [(60, .func (.func 66) #[] #[.pointer (some ⟨b3, 0, none⟩)]), (59, .map (some b24))] h40 (Kw.nil hB34) fun q200 h201 => ?_
  clear h40
  have hf207 : useA (l.map (·.1)) [] = M := hx38.trans (useA_end (by omega) M)
  have hMl : M.length ≤ 10000 := by have := useA_len (l.map (·.1)) []; rw [hf207, List.length_map, List.length_nil] at this; omega
  have hMk : ∀ s ∈ M.map (·.1), s.size ≤ 8 := by rw [← hf207]; exact use_keys hok [] (by simp)
  refine sC 2 61 h201 gok_none (p65_37 b3 b24 es clk M w32 hMl hMk (El.of_blk (hB34.at 1 rfl)) (hB34.at 0 rfl) hx37) ?_
  rintro _ w208 ⟨v204, rfl, ho205, hb209⟩
  have ho206 := own_base ho205 hB34.bel.size
  have hB210 := hB34.call hb209
  refine ⟨_, rfl, trivial, fun q202 h203 => ?_⟩
  clear h201 hB34 hb209
  refine b0 (.C 3 4 <| .C 4 5 <| .nil) [(5, .int .i64 0), (4, v204)] h203 (Kw.nil hB210) fun q211 h212 => ?_
  clear h203
  refine wpO_end ?_
  refine then_n ?_
  refine c_ret (by kernel_rfl) ?_
  refine ret2 (t := 4) (u := 5) (v := v204) (v' := .int .i64 0) h212 (by kernel_rfl) (by kernel_rfl) (by kernel_rfl) ?_
  refine ⟨v204, ?_, ?_, hB210.bel⟩
  · rw [show allE (l.map (·.1)) = 0 by simpa using hc19]
  · unfold nKeys; rw [hc19, cond_false, hf207]; exact ho206

set_option maxHeartbeats 4000000 in
set_option maxRecDepth 20000 in
theorem p36_38 (l : List InA) (A : Option Addr) (c : Nat) (w : World) (hn : l.length ≤ 5000) (hr : Rd w A (insc l)) (hl : Lr w l) : Calls Tryz.prog 36 #[.slice A l.length c, .func (.func 38) #[] #[]] w (fun e w' => ∃ v : Value, e = .returned (.tuple #[v, .int .i64 (allE (l.map (·.1)))]) ∧ w'.ownsRow w.heap.size 42 2 v (nKeys (allE (l.map (·.1))) (useA (l.map (·.1)) [])).length ((nKeys (allE (l.map (·.1))) (useA (l.map (·.1)) [])).flatMap (needC hNow (useA (l.map (·.1)) []))) ∧ Below w.heap.size w w') := by
  refine enter Tryz.func36 (by kernel_rfl) ?_ (by kernel_rfl)
  intro q0 h0
  replace h0 := h0.conv (l' := [(0, .slice A l.length c), (1, .func (.func 38) #[] #[])]) rfl
  have hB := Bx.refl w
  refine kS ?_
  refine rp 3 ?_
  refine sA 0 3 (fun b => .pointer (some ⟨b, 0, none⟩)) (.cells #[.func (.func 38) #[] #[]] 100 (0, 0)) h0 gok_none hB (fun _ _ hq => trivial) (fun b3 w4 hB5 hN q1 h2 => ?_)
  clear h0 hB hN
  refine b0 (.C 1 4 <| .C 2 5 <| .nil) [(5, .int .i64 0), (4, .slice none 0 0), (3, .pointer (some ⟨b3, 0, none⟩)), (0, .slice A l.length c)] h2 (Kw.nil hB5) fun q6 h7 => ?_
  clear h2
  refine wpO_end ?_
  refine then_n ?_
  refine kS ?_
  refine kS ?_
  refine rp 3 ?_
  refine b0 (.C 0 12 <| .nil) [(12, .slice A l.length c), (5, .int .i64 0), (4, .slice none 0 0), (3, .pointer (some ⟨b3, 0, none⟩)), (0, .slice A l.length c)] h7 (Kw.nil hB5) fun q8 h9 => ?_
  clear h7
  refine sC 1 13 h9 gok_none (p39 l A c w4 hn (hr.below hB5.bel) (hl.below hB5.bel)) ?_
  rintro _ w12 ⟨rfl, hb13⟩
  have hB14 := hB5.call hb13
  refine ⟨_, rfl, trivial, fun q10 h11 => ?_⟩
  clear h9 hB5 hb13
  refine b0 (.C 2 6 <| .nil) [(6, .int .i64 (allE (l.map (·.1)))), (5, .int .i64 0), (4, .slice none 0 0), (3, .pointer (some ⟨b3, 0, none⟩)), (0, .slice A l.length c)] h11 (Kw.nil hB14) fun q15 h16 => ?_
  clear h11
  refine wpO_end ?_
  refine then_n ?_
  refine kS ?_
  refine rp 2 ?_
  refine b0 (.C 0 14 <| .E 1 15 (.bool (allE (l.map (·.1)) != (0 : Int))) <| .nil) [(15, .bool (allE (l.map (·.1)) != (0 : Int))), (6, .int .i64 (allE (l.map (·.1)))), (5, .int .i64 0), (4, .slice none 0 0), (3, .pointer (some ⟨b3, 0, none⟩)), (0, .slice A l.length c)] h16 (Kw.nil hB14) fun q17 h18 => ?_
  clear h16
  refine wpO_end ?_
  refine then_n ?_
  refine kC 15 (allE (l.map (·.1)) != (0 : Int)) h18 (fun hc19 => ?_) (fun hc19 => ?_)
  ·
    refine kS ?_
    refine rp 3 ?_
    refine b0 (.C 0 16 <| .C 1 4 <| .C 2 5 <| .nil) [(5, .int .i64 (allE (l.map (·.1)))), (4, .slice none 0 0), (3, .pointer (some ⟨b3, 0, none⟩)), (0, .slice A l.length c)] h18 (Kw.nil hB14) fun q20 h21 => ?_
    clear h18
    refine wpO_end ?_
    refine then_n ?_
    refine c_ret (by kernel_rfl) ?_
    refine then_r ?_
    refine ret2 (t := 4) (u := 5) (v := .slice none 0 0) (v' := .int .i64 (allE (l.map (·.1)))) h21 (by kernel_rfl) (by kernel_rfl) (by kernel_rfl) ?_
    refine ⟨_, rfl, ?_, hB14.bel⟩
    unfold nKeys; rw [hc19]; exact own_nil _ _ _ _
  have hok := all_ok (l := l.map (·.1)) (by simpa using hc19)
  refine c_skip (by kernel_rfl) ?_
  refine then_n ?_
  refine kS ?_
  refine rp 2 ?_
  refine sA 0 17 (fun b => .map (some b)) (.map #[] 0) h18 gok_none hB14 (fun _ _ hq => trivial) (fun b24 w25 hB26 hN q22 h23 => ?_)
  clear h18 hB14 hN
  refine b0 (.C 1 7 <| .nil) [(7, .map (some b24)), (5, .int .i64 0), (4, .slice none 0 0), (3, .pointer (some ⟨b3, 0, none⟩)), (0, .slice A l.length c)] h23 (Kw.nil hB26) fun q27 h28 => ?_
  clear h23
  refine wpO_end ?_
  refine then_n ?_
  refine kS ?_
  refine kS ?_
  refine rp 3 ?_
  refine b0 (.C 0 18 <| .E 1 19 (.int .i64 ((l.length : Nat) : Int)) <| .C 2 20 <| .nil) [(20, .int .i64 0), (19, .int .i64 ((l.length : Nat) : Int)), (18, .slice A l.length c), (7, .map (some b24)), (5, .int .i64 0), (4, .slice none 0 0), (3, .pointer (some ⟨b3, 0, none⟩))] h28 (Kw.nil hB26) fun q29 h30 => ?_
  clear h28
  refine wpO_end ?_
  refine then_n ?_
  refine c_block 0 (by kernel_rfl) ?_
  refine c_loop (by kernel_rfl) (fun qa qw => ∃ k : Nat, ∃ (es : Array MapEntry) (clk : Nat) (M : List (ByteArray × Use)), (k ≤ l.length) ∧ Fr 62 [(18, .slice A l.length c), (19, .int .i64 ((l.length : Nat) : Int)), (20, .int .i64 ((k : Nat) : Int)), (7, .map (some b24)), (3, .pointer (some ⟨b3, 0, none⟩))] qa ∧ Bx w [(b24, .map es clk), (b3, .cells #[.func (.func 38) #[] #[]] 100 (0, 0))] qw ∧ (MapT Tryz.prog 9 eKs eU es clk M) ∧ (useA (l.map (·.1)) [] = useA ((l.drop k).map (·.1)) M)) (fun qa _ => (((l.length : Int)) - intAt qa 20).toNat) ⟨0, _, _, [], Nat.zero_le _, h30.keep _ ⟨rfl, rfl, rfl, rfl, rfl, trivial⟩, hB26, (MapT.empty : MapT Tryz.prog 9 eKs eU #[] 0 []), rfl⟩ ?_
  rintro q31 w32 ⟨k, es, clk, M, hk35, h33, hB34, hx37, hx38⟩
  have hm36 := h33.int (k := 20) (kd := .i64) (z := ((k : Nat) : Int)) rfl
  clear h30 hB26
  refine kS ?_
  refine rp 1 ?_
  refine b0 (.E 0 21 (.bool (decide (((k : Nat) : Int) < ((l.length : Nat) : Int)))) <| .nil) [(21, .bool (decide (((k : Nat) : Int) < ((l.length : Nat) : Int)))), (18, .slice A l.length c), (19, .int .i64 ((l.length : Nat) : Int)), (20, .int .i64 ((k : Nat) : Int)), (7, .map (some b24)), (3, .pointer (some ⟨b3, 0, none⟩))] h33 (Kw.nil hB34) fun q39 h40 => ?_
  clear h33
  refine wpO_end ?_
  refine then_n ?_
  refine kS ?_
  refine kC 21 (decide (((k : Nat) : Int) < ((l.length : Nat) : Int))) h40 (fun hc41 => ?_) (fun hc41 => ?_)
  ·
    have hp42 : (((k : Nat) : Int) < ((l.length : Nat) : Int)) := of_decide_eq_true hc41
    have hltx : k < l.length := by omega
    obtain ⟨x, hx⟩ : ∃ x, l[k]? = some x := ⟨l[k], List.getElem?_eq_getElem hltx⟩
    obtain ⟨ad, hA_, hE0⟩ := hr.el (k * 16) (inC x) (by intro h; cases h) (insc_el l k x hx)
    subst hA_
    obtain ⟨hcx, hnx, hrx⟩ := hl x (List.mem_of_getElem? hx)
    have hpx := hok x.1 (List.mem_map.2 ⟨x, List.mem_of_getElem? hx, rfl⟩)
    refine c_skip (by kernel_rfl) ?_
    refine then_n ?_
    refine kS ?_
    refine c_block 1 (by kernel_rfl) ?_
    refine kS ?_
    refine rp 4 ?_
    refine eE 0 22 (.indexAddr 23 (.tmp 18) (.tmp 20)) 0 (.pointer (some ((ad.add (k * 16)).add 0))) h40 (hr := r_index0 (n := l.length) (c := c) (kd := .i64) (by kernel_rfl) (by kernel_rfl) hltx (by kernel_rfl)) fun q43 h44 => ?_
    clear h40
    refine b0 (.Y 1 23 0 0 16 <| .nil) [(23, insV x.1 x.2.1 x.2.2), (21, .bool (decide (((k : Nat) : Int) < ((l.length : Nat) : Int)))), (18, .slice (some ad) l.length c), (19, .int .i64 ((l.length : Nat) : Int)), (20, .int .i64 ((k : Nat) : Int)), (7, .map (some b24)), (3, .pointer (some ⟨b3, 0, none⟩))] h44 ((Kw.nil hB34).cons (hE0.below hB34.bel)) fun q45 h46 => ?_
    clear h44
    refine sA 2 9 (fun b => .pointer (some ⟨b, 0, none⟩)) (.cells #[.string (⟨#[]⟩ : ByteArray), .int .i64 0, .string (⟨#[]⟩ : ByteArray), .string (⟨#[]⟩ : ByteArray), .int .i64 0, .string (⟨#[]⟩ : ByteArray), .int .i64 0, .int .i64 0, .int .i64 0, .int .i64 0, .int .i64 0, .bool false, .int .i64 0, .bool false, .bool false, .slice none 0 0] 30 (0, 0)) h46 gok_none hB34 (fun _ _ hq => trivial) (fun b49 w50 hB51 hN q47 h48 => ?_)
    clear h46 hB34 hN
    refine sW 3 0 0 [(b49, .cells (insV x.1 x.2.1 x.2.2).cells 30 (0, 0)), (b24, .map es clk), (b3, .cells #[.func (.func 38) #[] #[]] 100 (0, 0))] h48 gok_none hB51 (.inr fun _ _ => trivial) (fun w54 hB55 hT q52 h53 => ?_)
    clear h48 hB51
    clear hT
    refine wpO_end ?_
    have h56 := h53.keep [(9, .pointer (some ⟨b49, 0, none⟩)), (21, .bool (decide (((k : Nat) : Int) < ((l.length : Nat) : Int)))), (18, .slice (some ad) l.length c), (19, .int .i64 ((l.length : Nat) : Int)), (20, .int .i64 ((k : Nat) : Int)), (7, .map (some b24)), (3, .pointer (some ⟨b3, 0, none⟩))] ⟨rfl, rfl, rfl, rfl, rfl, rfl, rfl, trivial⟩
    clear h53
    refine then_n ?_
    refine kS ?_
    refine c_cut (fun qa qw => ∃ (b77 : Nat) (b82 : Nat), Fr 62 [(11, .pointer (some ⟨b82, 0, none⟩)), (10, .pointer (some ⟨b77, 0, none⟩)), (9, .pointer (some ⟨b49, 0, none⟩)), (21, .bool (decide (((k : Nat) : Int) < ((l.length : Nat) : Int)))), (18, .slice (some ad) l.length c), (19, .int .i64 ((l.length : Nat) : Int)), (20, .int .i64 ((k : Nat) : Int)), (7, .map (some b24)), (3, .pointer (some ⟨b3, 0, none⟩))] qa ∧ Bx w [(b82, .cells #[.int .i64 ((lkD M x.1.cpty (0, 0)).1), .int .i64 ((lkD M x.1.cpty (0, 0)).2)] 99 (0, 0)), (b77, .cells #[.int .i64 ((lkD M x.1.sender (0, 0)).1), .int .i64 ((lkD M x.1.sender (0, 0)).2)] 99 (0, 0)), (b49, .cells (insV x.1 x.2.1 x.2.2).cells 30 (0, 0)), (b24, .map es clk), (b3, .cells #[.func (.func 38) #[] #[]] 100 (0, 0))] qw) ?_ ?_
    ·
      have hD93 := hB55.drew
      refine reg_plan (S := Bx w [(b49, .cells (insV x.1 x.2.1 x.2.2).cells 30 (0, 0)), (b24, .map es clk), (b3, .cells #[.func (.func 38) #[] #[]] 100 (0, 0))]) 12 [⟨0, true, 0, 128, 16777216⟩, ⟨1, true, 0, 512, 33554432⟩, ⟨2, true, 2, 33554432, 67108864⟩, ⟨3, true, 5, 83886080, 134217728⟩, ⟨4, true, 0, 128, 268435456⟩, ⟨5, true, 0, 512, 536870912⟩, ⟨6, true, 32, 536870912, 1073741824⟩, ⟨7, true, 80, 1342177280, 2147483648⟩, ⟨8, false, 0, 0, 1024⟩, ⟨9, false, 0, 0, 2048⟩, ⟨10, false, 783, 134218752, 0⟩, ⟨11, false, 2047, 2147485696, 0⟩] (.free ⟨0, true, 0, 128, 16777216⟩ (.free ⟨1, true, 0, 512, 33554432⟩ (.free ⟨2, true, 2, 33554432, 67108864⟩ (.free ⟨3, true, 5, 83886080, 134217728⟩ (.free ⟨4, true, 0, 128, 268435456⟩ (.free ⟨5, true, 0, 512, 536870912⟩ (.free ⟨6, true, 32, 536870912, 1073741824⟩ (.free ⟨7, true, 80, 1342177280, 2147483648⟩ (.alt ⟨8, false, 0, 0, 1024⟩ (.alt ⟨9, false, 0, 0, 2048⟩ (.alt ⟨10, false, 783, 134218752, 0⟩ (.alt ⟨11, false, 2047, 2147485696, 0⟩ (.done) (.none)) (.none)) (.none)) (.alt ⟨9, false, 0, 0, 2048⟩ (.alt ⟨8, false, 0, 0, 1024⟩ (.alt ⟨10, false, 783, 134218752, 0⟩ (.alt ⟨11, false, 2047, 2147485696, 0⟩ (.done) (.none)) (.none)) (.none)) (.none))))))))))) (by kernel_rfl) (by kernel_rfl) (by kernel_rfl) (fun _ _ _ _ h => absurd h.2 (by simp)) hD93 ?_
      generalize World.drew w54 = w94 at hD93 ⊢
      refine p_free ?_
      refine fE 0 24 (.move (.tmp 7)) 134 (.map (some b24)) h56 fun q95 h96 => ?_
      clear h56
      refine wpO_end ?_
      refine cut_n ?_
      refine p_free ?_
      refine fE 1 25 (.fieldAddr 30 (.tmp 9) 2) 0 (.pointer (some ⟨b49, 2, none⟩)) h96 fun q97 h98 => ?_
      clear h96
      refine wpO_end ?_
      refine cut_n ?_
      refine p_free ?_
      refine fE 2 26 (.load 9 (.tmp 25)) 9 (.string x.1.sender) h98 (hr := fun _ hS => r_loadC (b := b49) (v := .string x.1.sender) hS 0 2 (by kernel_rfl) (by kernel_rfl) (by kernel_rfl)) fun q99 h100 => ?_
      clear h98
      refine wpO_end ?_
      refine cut_n ?_
      refine p_free ?_
      refine fE 3 27 (.lookup 134 (.tmp 24) (.tmp 26) false) 99 (.agg #[.int .i64 ((lkD M x.1.sender (0, 0)).1), .int .i64 ((lkD M x.1.sender (0, 0)).2)]) h100 (hr := fun _ hS => r_lookup hS 1 (k := x.1.sender) (d := (0, 0)) rfl hx37 Kstr eKs_inj (hk_str _ (memB_size hpx.snd).1) (by kernel_rfl) Tryz.zeroValue99 rfl rfl) fun q101 h102 => ?_
      clear h100
      refine wpO_end ?_
      refine cut_n ?_
      refine p_free ?_
      refine fE 4 28 (.move (.tmp 7)) 134 (.map (some b24)) h102 fun q103 h104 => ?_
      clear h102
      refine wpO_end ?_
      refine cut_n ?_
      refine p_free ?_
      refine fE 5 29 (.fieldAddr 30 (.tmp 9) 3) 0 (.pointer (some ⟨b49, 3, none⟩)) h104 fun q105 h106 => ?_
      clear h104
      refine wpO_end ?_
      refine cut_n ?_
      refine p_free ?_
      refine fE 6 30 (.load 9 (.tmp 29)) 9 (.string x.1.cpty) h106 (hr := fun _ hS => r_loadC (b := b49) (v := .string x.1.cpty) hS 0 3 (by kernel_rfl) (by kernel_rfl) (by kernel_rfl)) fun q107 h108 => ?_
      clear h106
      refine wpO_end ?_
      refine cut_n ?_
      refine p_free ?_
      refine fE 7 31 (.lookup 134 (.tmp 28) (.tmp 30) false) 99 (.agg #[.int .i64 ((lkD M x.1.cpty (0, 0)).1), .int .i64 ((lkD M x.1.cpty (0, 0)).2)]) h108 (hr := fun _ hS => r_lookup hS 1 (k := x.1.cpty) (d := (0, 0)) rfl hx37 Kstr eKs_inj (hk_str _ (memB_size hpx.cpt).1) (by kernel_rfl) Tryz.zeroValue99 rfl rfl) fun q109 h110 => ?_
      clear h108
      refine wpO_end ?_
      refine cut_n ?_
      refine p_alt ?_ ?_
      ·
        refine sA 8 10 (fun b => .pointer (some ⟨b, 0, none⟩)) (.cells #[.int .i64 0, .int .i64 0] 99 (0, 0)) h110 gok_none hD93 (fun _ _ hq => hq.tail) (fun b113 w114 hB115 hN q111 h112 => ?_)
        clear h110 hD93 hN
        refine wpO_end ?_
        refine cut_n ?_
        refine p_alt ?_ ?_
        ·
          refine sA 9 11 (fun b => .pointer (some ⟨b, 0, none⟩)) (.cells #[.int .i64 0, .int .i64 0] 99 (0, 0)) h112 gok_none hB115 (fun _ _ hq => hq.tail.tail) (fun b118 w119 hB120 hN q116 h117 => ?_)
          clear h112 hB115 hN
          refine wpO_end ?_
          refine cut_n ?_
          refine p_alt ?_ ?_
          ·
            refine sW 10 1 0 [(b118, .cells #[.int .i64 0, .int .i64 0] 99 (0, 0)), (b113, .cells #[.int .i64 ((lkD M x.1.sender (0, 0)).1), .int .i64 ((lkD M x.1.sender (0, 0)).2)] 99 (0, 0)), (b49, .cells (insV x.1 x.2.1 x.2.2).cells 30 (0, 0)), (b24, .map es clk), (b3, .cells #[.func (.func 38) #[] #[]] 100 (0, 0))] h117 gok_none hB120 (.inr fun _ hq => hq.tail.tail) (fun w123 hB124 hT q121 h122 => ?_)
            clear h117 hB120
            clear hT
            refine wpO_end ?_
            refine cut_n ?_
            refine p_alt ?_ ?_
            ·
              refine sW 11 0 0 [(b118, .cells #[.int .i64 ((lkD M x.1.cpty (0, 0)).1), .int .i64 ((lkD M x.1.cpty (0, 0)).2)] 99 (0, 0)), (b113, .cells #[.int .i64 ((lkD M x.1.sender (0, 0)).1), .int .i64 ((lkD M x.1.sender (0, 0)).2)] 99 (0, 0)), (b49, .cells (insV x.1 x.2.1 x.2.2).cells 30 (0, 0)), (b24, .map es clk), (b3, .cells #[.func (.func 38) #[] #[]] 100 (0, 0))] h122 gok_none hB124 (.inr fun _ hq => hq.tail.tail) (fun w127 hB128 hT q125 h126 => ?_)
              clear h122 hB124
              clear hT
              refine wpO_end ?_
              refine cut_n ?_
              refine p_done ?_
              exact cut_n ⟨b113, b118, h126.keep _ ⟨rfl, rfl, rfl, rfl, rfl, rfl, rfl, rfl, rfl, trivial⟩, hB128.sel [0, 1, 2, 3, 4] (by decide) rfl⟩
            exact p_none
          exact p_none
        exact p_none
      refine p_alt ?_ ?_
      ·
        refine sA 9 11 (fun b => .pointer (some ⟨b, 0, none⟩)) (.cells #[.int .i64 0, .int .i64 0] 99 (0, 0)) h110 gok_none hD93 (fun _ _ hq => hq.tail) (fun b131 w132 hB133 hN q129 h130 => ?_)
        clear h110 hD93 hN
        refine wpO_end ?_
        refine cut_n ?_
        refine p_alt ?_ ?_
        ·
          refine sA 8 10 (fun b => .pointer (some ⟨b, 0, none⟩)) (.cells #[.int .i64 0, .int .i64 0] 99 (0, 0)) h130 gok_none hB133 (fun _ _ hq => hq.tail.tail) (fun b136 w137 hB138 hN q134 h135 => ?_)
          clear h130 hB133 hN
          refine wpO_end ?_
          refine cut_n ?_
          refine p_alt ?_ ?_
          ·
            refine sW 10 0 0 [(b136, .cells #[.int .i64 ((lkD M x.1.sender (0, 0)).1), .int .i64 ((lkD M x.1.sender (0, 0)).2)] 99 (0, 0)), (b131, .cells #[.int .i64 0, .int .i64 0] 99 (0, 0)), (b49, .cells (insV x.1 x.2.1 x.2.2).cells 30 (0, 0)), (b24, .map es clk), (b3, .cells #[.func (.func 38) #[] #[]] 100 (0, 0))] h135 gok_none hB138 (.inr fun _ hq => hq.tail.tail) (fun w141 hB142 hT q139 h140 => ?_)
            clear h135 hB138
            clear hT
            refine wpO_end ?_
            refine cut_n ?_
            refine p_alt ?_ ?_
            ·
              refine sW 11 1 0 [(b136, .cells #[.int .i64 ((lkD M x.1.sender (0, 0)).1), .int .i64 ((lkD M x.1.sender (0, 0)).2)] 99 (0, 0)), (b131, .cells #[.int .i64 ((lkD M x.1.cpty (0, 0)).1), .int .i64 ((lkD M x.1.cpty (0, 0)).2)] 99 (0, 0)), (b49, .cells (insV x.1 x.2.1 x.2.2).cells 30 (0, 0)), (b24, .map es clk), (b3, .cells #[.func (.func 38) #[] #[]] 100 (0, 0))] h140 gok_none hB142 (.inr fun _ hq => hq.tail.tail) (fun w145 hB146 hT q143 h144 => ?_)
              clear h140 hB142
              clear hT
              refine wpO_end ?_
              refine cut_n ?_
              refine p_done ?_
              exact cut_n ⟨b136, b131, h144.keep _ ⟨rfl, rfl, rfl, rfl, rfl, rfl, rfl, rfl, rfl, trivial⟩, hB146.sel [1, 0, 2, 3, 4] (by decide) rfl⟩
            exact p_none
          exact p_none
        exact p_none
      exact p_none
    rintro q147 w148 ⟨b77, b82, h149, hB150⟩
    refine then_n ?_
    refine kS ?_
    refine rp 7 ?_
    refine b0 (.C 0 32 <| .L 1 33 1 0 <| .C 2 34 <| .L 3 35 2 7 <| .E 4 36 (.int .i64 (IntKind.i64.wrap (((lkD M x.1.sender (0, 0)).1) + x.1.amt))) <| .C 5 37 <| .nil) [(37, .pointer (some ⟨b77, 0, none⟩)), (36, .int .i64 (IntKind.i64.wrap (((lkD M x.1.sender (0, 0)).1) + x.1.amt))), (11, .pointer (some ⟨b82, 0, none⟩)), (10, .pointer (some ⟨b77, 0, none⟩)), (9, .pointer (some ⟨b49, 0, none⟩)), (21, .bool (decide (((k : Nat) : Int) < ((l.length : Nat) : Int)))), (18, .slice (some ad) l.length c), (19, .int .i64 ((l.length : Nat) : Int)), (20, .int .i64 ((k : Nat) : Int)), (7, .map (some b24)), (3, .pointer (some ⟨b3, 0, none⟩))] h149 (Kw.nil hB150) fun q151 h152 => ?_
    clear h149
    refine sW 6 1 0 [(b82, .cells #[.int .i64 ((lkD M x.1.cpty (0, 0)).1), .int .i64 ((lkD M x.1.cpty (0, 0)).2)] 99 (0, 0)), (b77, .cells #[.int .i64 (IntKind.i64.wrap (((lkD M x.1.sender (0, 0)).1) + x.1.amt)), .int .i64 ((lkD M x.1.sender (0, 0)).2)] 99 (0, 0)), (b49, .cells (insV x.1 x.2.1 x.2.2).cells 30 (0, 0)), (b24, .map es clk), (b3, .cells #[.func (.func 38) #[] #[]] 100 (0, 0))] h152 gok_none hB150 (.inr fun _ _ => trivial) (fun w155 hB156 hT q153 h154 => ?_)
    clear h152 hB150
    clear hT
    refine wpO_end ?_
    have h157 := h154.keep [(11, .pointer (some ⟨b82, 0, none⟩)), (10, .pointer (some ⟨b77, 0, none⟩)), (9, .pointer (some ⟨b49, 0, none⟩)), (21, .bool (decide (((k : Nat) : Int) < ((l.length : Nat) : Int)))), (18, .slice (some ad) l.length c), (19, .int .i64 ((l.length : Nat) : Int)), (20, .int .i64 ((k : Nat) : Int)), (7, .map (some b24)), (3, .pointer (some ⟨b3, 0, none⟩))] ⟨rfl, rfl, rfl, rfl, rfl, rfl, rfl, rfl, rfl, trivial⟩
    clear h154
    refine then_n ?_
    refine kS ?_
    refine rp 7 ?_
    refine b0 (.C 0 38 <| .L 1 39 1 1 <| .C 2 40 <| .L 3 41 1 0 <| .E 4 42 (.int .i64 (if (lkD M x.1.sender (0, 0)).2 < IntKind.i64.wrap (((lkD M x.1.sender (0, 0)).1) + x.1.amt) then IntKind.i64.wrap (((lkD M x.1.sender (0, 0)).1) + x.1.amt) else (lkD M x.1.sender (0, 0)).2)) <| .C 5 43 <| .nil) [(43, .pointer (some ⟨b77, 1, none⟩)), (42, .int .i64 (if (lkD M x.1.sender (0, 0)).2 < IntKind.i64.wrap (((lkD M x.1.sender (0, 0)).1) + x.1.amt) then IntKind.i64.wrap (((lkD M x.1.sender (0, 0)).1) + x.1.amt) else (lkD M x.1.sender (0, 0)).2)), (11, .pointer (some ⟨b82, 0, none⟩)), (10, .pointer (some ⟨b77, 0, none⟩)), (9, .pointer (some ⟨b49, 0, none⟩)), (21, .bool (decide (((k : Nat) : Int) < ((l.length : Nat) : Int)))), (18, .slice (some ad) l.length c), (19, .int .i64 ((l.length : Nat) : Int)), (20, .int .i64 ((k : Nat) : Int)), (7, .map (some b24)), (3, .pointer (some ⟨b3, 0, none⟩))] h157 (Kw.nil hB156) fun q158 h159 => ?_
    clear h157
    refine sW 6 1 1 [(b82, .cells #[.int .i64 ((lkD M x.1.cpty (0, 0)).1), .int .i64 ((lkD M x.1.cpty (0, 0)).2)] 99 (0, 0)), (b77, .cells #[.int .i64 (IntKind.i64.wrap (((lkD M x.1.sender (0, 0)).1) + x.1.amt)), .int .i64 (if (lkD M x.1.sender (0, 0)).2 < IntKind.i64.wrap (((lkD M x.1.sender (0, 0)).1) + x.1.amt) then IntKind.i64.wrap (((lkD M x.1.sender (0, 0)).1) + x.1.amt) else (lkD M x.1.sender (0, 0)).2)] 99 (0, 0)), (b49, .cells (insV x.1 x.2.1 x.2.2).cells 30 (0, 0)), (b24, .map es clk), (b3, .cells #[.func (.func 38) #[] #[]] 100 (0, 0))] h159 gok_none hB156 (.inr fun _ _ => trivial) (fun w162 hB163 hT q160 h161 => ?_)
    clear h159 hB156
    clear hT
    refine wpO_end ?_
    have h164 := h161.keep [(11, .pointer (some ⟨b82, 0, none⟩)), (10, .pointer (some ⟨b77, 0, none⟩)), (9, .pointer (some ⟨b49, 0, none⟩)), (21, .bool (decide (((k : Nat) : Int) < ((l.length : Nat) : Int)))), (18, .slice (some ad) l.length c), (19, .int .i64 ((l.length : Nat) : Int)), (20, .int .i64 ((k : Nat) : Int)), (7, .map (some b24)), (3, .pointer (some ⟨b3, 0, none⟩))] ⟨rfl, rfl, rfl, rfl, rfl, rfl, rfl, rfl, rfl, trivial⟩
    clear h161
    refine then_n ?_
    refine kS ?_
    refine rp 7 ?_
    refine b0 (.C 0 44 <| .L 1 45 0 0 <| .C 2 46 <| .L 3 47 2 7 <| .E 4 48 (.int .i64 (IntKind.i64.wrap (((lkD M x.1.cpty (0, 0)).1) - x.1.amt))) <| .C 5 49 <| .nil) [(49, .pointer (some ⟨b82, 0, none⟩)), (48, .int .i64 (IntKind.i64.wrap (((lkD M x.1.cpty (0, 0)).1) - x.1.amt))), (11, .pointer (some ⟨b82, 0, none⟩)), (10, .pointer (some ⟨b77, 0, none⟩)), (9, .pointer (some ⟨b49, 0, none⟩)), (21, .bool (decide (((k : Nat) : Int) < ((l.length : Nat) : Int)))), (18, .slice (some ad) l.length c), (19, .int .i64 ((l.length : Nat) : Int)), (20, .int .i64 ((k : Nat) : Int)), (7, .map (some b24)), (3, .pointer (some ⟨b3, 0, none⟩))] h164 (Kw.nil hB163) fun q165 h166 => ?_
    clear h164
    refine sW 6 0 0 [(b82, .cells #[.int .i64 (IntKind.i64.wrap (((lkD M x.1.cpty (0, 0)).1) - x.1.amt)), .int .i64 ((lkD M x.1.cpty (0, 0)).2)] 99 (0, 0)), (b77, .cells #[.int .i64 (IntKind.i64.wrap (((lkD M x.1.sender (0, 0)).1) + x.1.amt)), .int .i64 (if (lkD M x.1.sender (0, 0)).2 < IntKind.i64.wrap (((lkD M x.1.sender (0, 0)).1) + x.1.amt) then IntKind.i64.wrap (((lkD M x.1.sender (0, 0)).1) + x.1.amt) else (lkD M x.1.sender (0, 0)).2)] 99 (0, 0)), (b49, .cells (insV x.1 x.2.1 x.2.2).cells 30 (0, 0)), (b24, .map es clk), (b3, .cells #[.func (.func 38) #[] #[]] 100 (0, 0))] h166 gok_none hB163 (.inr fun _ _ => trivial) (fun w169 hB170 hT q167 h168 => ?_)
    clear h166 hB163
    clear hT
    refine wpO_end ?_
    have h171 := h168.keep [(11, .pointer (some ⟨b82, 0, none⟩)), (10, .pointer (some ⟨b77, 0, none⟩)), (9, .pointer (some ⟨b49, 0, none⟩)), (21, .bool (decide (((k : Nat) : Int) < ((l.length : Nat) : Int)))), (18, .slice (some ad) l.length c), (19, .int .i64 ((l.length : Nat) : Int)), (20, .int .i64 ((k : Nat) : Int)), (7, .map (some b24)), (3, .pointer (some ⟨b3, 0, none⟩))] ⟨rfl, rfl, rfl, rfl, rfl, rfl, rfl, rfl, rfl, trivial⟩
    clear h168
    refine then_n ?_
    have hB172 : Bx w [(b24, .map es clk), (b82, .cells #[.int .i64 (IntKind.i64.wrap (((lkD M x.1.cpty (0, 0)).1) - x.1.amt)), .int .i64 ((lkD M x.1.cpty (0, 0)).2)] 99 (0, 0)), (b77, .cells #[.int .i64 (IntKind.i64.wrap (((lkD M x.1.sender (0, 0)).1) + x.1.amt)), .int .i64 (if (lkD M x.1.sender (0, 0)).2 < IntKind.i64.wrap (((lkD M x.1.sender (0, 0)).1) + x.1.amt) then IntKind.i64.wrap (((lkD M x.1.sender (0, 0)).1) + x.1.amt) else (lkD M x.1.sender (0, 0)).2)] 99 (0, 0)), (b49, .cells (insV x.1 x.2.1 x.2.2).cells 30 (0, 0)), (b3, .cells #[.func (.func 38) #[] #[]] 100 (0, 0))] w169 := hB170.sel [3, 0, 1, 2, 4] (by decide) rfl
    clear hB170
    have hD173 := hB172.drew
    refine rd (Bx w [(b82, .cells #[.int .i64 (IntKind.i64.wrap (((lkD M x.1.cpty (0, 0)).1) - x.1.amt)), .int .i64 ((lkD M x.1.cpty (0, 0)).2)] 99 (0, 0)), (b77, .cells #[.int .i64 (IntKind.i64.wrap (((lkD M x.1.sender (0, 0)).1) + x.1.amt)), .int .i64 (if (lkD M x.1.sender (0, 0)).2 < IntKind.i64.wrap (((lkD M x.1.sender (0, 0)).1) + x.1.amt) then IntKind.i64.wrap (((lkD M x.1.sender (0, 0)).1) + x.1.amt) else (lkD M x.1.sender (0, 0)).2)] 99 (0, 0)), (b49, .cells (insV x.1 x.2.1 x.2.2).cells 30 (0, 0)), (b3, .cells #[.func (.func 38) #[] #[]] 100 (0, 0))]) 10 [⟨0, true, 0, 128, 1125899906842624⟩, ⟨1, true, 0, 512, 2251799813685248⟩, ⟨2, true, 2, 2251799813685248, 4503599627370496⟩, ⟨3, true, 0, 128, 9007199254740992⟩, ⟨4, true, 0, 512, 18014398509481984⟩, ⟨5, true, 16, 18014398509481984, 36028797018963968⟩, ⟨6, true, 0, 1024, 72057594037927936⟩, ⟨7, true, 0, 2048, 144115188075855872⟩, ⟨8, false, 71, 77687093572141056, 0⟩, ⟨9, false, 511, 189151184349560832, 0⟩] hD173.tail ?_
    generalize World.drew w169 = w174 at hD173 ⊢
    refine d0 (.C 0 50 <| .C 1 51 <| .L 2 52 2 2 <| .C 3 53 <| .C 4 54 <| .L 5 55 2 3 <| .S 6 56 1 0 2 <| .S 7 57 0 0 2 <| .nil) [(57, .agg #[.int .i64 (IntKind.i64.wrap (((lkD M x.1.cpty (0, 0)).1) - x.1.amt)), .int .i64 ((lkD M x.1.cpty (0, 0)).2)]), (56, .agg #[.int .i64 (IntKind.i64.wrap (((lkD M x.1.sender (0, 0)).1) + x.1.amt)), .int .i64 (if (lkD M x.1.sender (0, 0)).2 < IntKind.i64.wrap (((lkD M x.1.sender (0, 0)).1) + x.1.amt) then IntKind.i64.wrap (((lkD M x.1.sender (0, 0)).1) + x.1.amt) else (lkD M x.1.sender (0, 0)).2)]), (55, .string x.1.cpty), (53, .map (some b24)), (52, .string x.1.sender), (50, .map (some b24)), (11, .pointer (some ⟨b82, 0, none⟩)), (10, .pointer (some ⟨b77, 0, none⟩)), (9, .pointer (some ⟨b49, 0, none⟩)), (21, .bool (decide (((k : Nat) : Int) < ((l.length : Nat) : Int)))), (18, .slice (some ad) l.length c), (19, .int .i64 ((l.length : Nat) : Int)), (20, .int .i64 ((k : Nat) : Int)), (7, .map (some b24)), (3, .pointer (some ⟨b3, 0, none⟩))] h171 (fun _ hS => Kw.nil hS) fun q175 h176 => ?_
    clear h171
    refine sMU (et := 99) (t := 134) (x := (Operand.tmp 50)) (y := (Operand.tmp 52)) (z := (Operand.tmp 56)) (ty := 0) 8 0 (k := x.1.sender) (v := (IntKind.i64.wrap (((lkD M x.1.sender (0, 0)).1) + x.1.amt), if (lkD M x.1.sender (0, 0)).2 < IntKind.i64.wrap (((lkD M x.1.sender (0, 0)).1) + x.1.amt) then IntKind.i64.wrap (((lkD M x.1.sender (0, 0)).1) + x.1.amt) else (lkD M x.1.sender (0, 0)).2)) (eV := eU) h176 hD173 rfl hx37 Kstr eKs_inj (hk_str _ (memB_size hpx.snd).1) (by kernel_rfl) (by kernel_rfl) (by kernel_rfl) rfl rfl rfl (fun _ _ _ hq => .inr (hq.tail)) (fun es179 clk180 w181 hM182 hB183 hP184 q177 h178 => ?_)
    clear h176 hD173
    replace hB183 : Bx w [(b24, .map es179 clk180), (b82, .cells #[.int .i64 (IntKind.i64.wrap (((lkD M x.1.cpty (0, 0)).1) - x.1.amt)), .int .i64 ((lkD M x.1.cpty (0, 0)).2)] 99 (0, 0)), (b77, .cells #[.int .i64 (IntKind.i64.wrap (((lkD M x.1.sender (0, 0)).1) + x.1.amt)), .int .i64 (if (lkD M x.1.sender (0, 0)).2 < IntKind.i64.wrap (((lkD M x.1.sender (0, 0)).1) + x.1.amt) then IntKind.i64.wrap (((lkD M x.1.sender (0, 0)).1) + x.1.amt) else (lkD M x.1.sender (0, 0)).2)] 99 (0, 0)), (b49, .cells (insV x.1 x.2.1 x.2.2).cells 30 (0, 0)), (b3, .cells #[.func (.func 38) #[] #[]] 100 (0, 0))] w181 := hB183
    clear hP184
    refine sMU (et := 99) (t := 134) (x := (Operand.tmp 53)) (y := (Operand.tmp 55)) (z := (Operand.tmp 57)) (ty := 0) 9 0 (k := x.1.cpty) (v := (IntKind.i64.wrap (((lkD M x.1.cpty (0, 0)).1) - x.1.amt), (lkD M x.1.cpty (0, 0)).2)) (eV := eU) h178 hB183 rfl hM182 Kstr eKs_inj (hk_str _ (memB_size hpx.cpt).1) (by kernel_rfl) (by kernel_rfl) (by kernel_rfl) rfl rfl rfl (fun _ _ _ hq => .inr (hq.tail)) (fun es187 clk188 w189 hM190 hB191 hP192 q185 h186 => ?_)
    clear h178 hB183
    replace hB191 : Bx w [(b24, .map es187 clk188), (b82, .cells #[.int .i64 (IntKind.i64.wrap (((lkD M x.1.cpty (0, 0)).1) - x.1.amt)), .int .i64 ((lkD M x.1.cpty (0, 0)).2)] 99 (0, 0)), (b77, .cells #[.int .i64 (IntKind.i64.wrap (((lkD M x.1.sender (0, 0)).1) + x.1.amt)), .int .i64 (if (lkD M x.1.sender (0, 0)).2 < IntKind.i64.wrap (((lkD M x.1.sender (0, 0)).1) + x.1.amt) then IntKind.i64.wrap (((lkD M x.1.sender (0, 0)).1) + x.1.amt) else (lkD M x.1.sender (0, 0)).2)] 99 (0, 0)), (b49, .cells (insV x.1 x.2.1 x.2.2).cells 30 (0, 0)), (b3, .cells #[.func (.func 38) #[] #[]] 100 (0, 0))] w189 := hB191
    clear hP192
    refine wpO_end ?_
    have h193 := h186.keep [(11, .pointer (some ⟨b82, 0, none⟩)), (10, .pointer (some ⟨b77, 0, none⟩)), (9, .pointer (some ⟨b49, 0, none⟩)), (21, .bool (decide (((k : Nat) : Int) < ((l.length : Nat) : Int)))), (18, .slice (some ad) l.length c), (19, .int .i64 ((l.length : Nat) : Int)), (20, .int .i64 ((k : Nat) : Int)), (7, .map (some b24)), (3, .pointer (some ⟨b3, 0, none⟩))] ⟨rfl, rfl, rfl, rfl, rfl, rfl, rfl, rfl, rfl, trivial⟩
    clear h186
    refine inB_n ?_
    refine then_n ?_
    refine rp 2 ?_
    refine b0 (.E 0 58 (.int .i64 (IntKind.i64.wrap (((k : Nat) : Int) + 1))) <| .C 1 20 <| .nil) [(20, .int .i64 (IntKind.i64.wrap (((k : Nat) : Int) + 1))), (11, .pointer (some ⟨b82, 0, none⟩)), (10, .pointer (some ⟨b77, 0, none⟩)), (9, .pointer (some ⟨b49, 0, none⟩)), (21, .bool (decide (((k : Nat) : Int) < ((l.length : Nat) : Int)))), (18, .slice (some ad) l.length c), (19, .int .i64 ((l.length : Nat) : Int)), (7, .map (some b24)), (3, .pointer (some ⟨b3, 0, none⟩))] h193 (Kw.nil hB191) fun q194 h195 => ?_
    clear h193
    refine wpO_end ?_
    have hB196 : Bx w [(b82, .cells #[.int .i64 (IntKind.i64.wrap (((lkD M x.1.cpty (0, 0)).1) - x.1.amt)), .int .i64 ((lkD M x.1.cpty (0, 0)).2)] 99 (0, 0)), (b77, .cells #[.int .i64 (IntKind.i64.wrap (((lkD M x.1.sender (0, 0)).1) + x.1.amt)), .int .i64 (if (lkD M x.1.sender (0, 0)).2 < IntKind.i64.wrap (((lkD M x.1.sender (0, 0)).1) + x.1.amt) then IntKind.i64.wrap (((lkD M x.1.sender (0, 0)).1) + x.1.amt) else (lkD M x.1.sender (0, 0)).2)] 99 (0, 0)), (b49, .cells (insV x.1 x.2.1 x.2.2).cells 30 (0, 0)), (b24, .map es187 clk188), (b3, .cells #[.func (.func 38) #[] #[]] 100 (0, 0))] w189 := hB191.sel [1, 2, 3, 0, 4] (by decide) rfl
    clear hB191
    have h197 := h195.keep [(18, .slice (some ad) l.length c), (19, .int .i64 ((l.length : Nat) : Int)), (20, .int .i64 (((k + 1) : Nat) : Int)), (7, .map (some b24)), (3, .pointer (some ⟨b3, 0, none⟩))] ⟨rfl, rfl, look_int rfl (wrap_succ (by omega)), rfl, rfl, trivial⟩
    have hm198 := h197.int (k := 20) (kd := .i64) (z := (((k + 1) : Nat) : Int)) rfl
    refine then_n ⟨⟨k + 1, es187, clk188, useS M x.1, by omega, h197, hB196.tail.tail.tail, hM190, hx38.trans (useA_at hx M)⟩, ?_⟩
    show (((l.length : Int)) - intAt _ 20).toNat < (((l.length : Int)) - intAt _ 20).toNat
    rw [hm36, hm198]; omega
  have hp199 : ¬ (((k : Nat) : Int) < ((l.length : Nat) : Int)) := of_decide_eq_false hc41
  refine c_exit 0 (by kernel_rfl) ?_
  refine then_e (then_e (inB_hit ?_))
  refine then_n ?_
  refine kS ?_
  refine rp 5 ?_
  refine b0 (.C 0 59 <| .E 1 60 (.func (.func 66) #[] #[.pointer (some ⟨b3, 0, none⟩)]) <| .nil) [(60, .func (.func 66) #[] #[.pointer (some ⟨b3, 0, none⟩)]), (59, .map (some b24))] h40 (Kw.nil hB34) fun q200 h201 => ?_
  clear h40
  have hf207 : useA (l.map (·.1)) [] = M := hx38.trans (useA_end (by omega) M)
  have hMl : M.length ≤ 10000 := by have := useA_len (l.map (·.1)) []; rw [hf207, List.length_map, List.length_nil] at this; omega
  have hMk : ∀ s ∈ M.map (·.1), s.size ≤ 8 := by rw [← hf207]; exact use_keys hok [] (by simp)
  refine sC 2 61 h201 gok_none (p65_38 b3 b24 es clk M w32 hMl hMk (El.of_blk (hB34.at 1 rfl)) (hB34.at 0 rfl) hx37) ?_
  rintro _ w208 ⟨v204, rfl, ho205, hb209⟩
  have ho206 := own_base ho205 hB34.bel.size
  have hB210 := hB34.call hb209
  refine ⟨_, rfl, trivial, fun q202 h203 => ?_⟩
  clear h201 hB34 hb209
  refine b0 (.C 3 4 <| .C 4 5 <| .nil) [(5, .int .i64 0), (4, v204)] h203 (Kw.nil hB210) fun q211 h212 => ?_
  clear h203
  refine wpO_end ?_
  refine then_n ?_
  refine c_ret (by kernel_rfl) ?_
  refine ret2 (t := 4) (u := 5) (v := v204) (v' := .int .i64 0) h212 (by kernel_rfl) (by kernel_rfl) (by kernel_rfl) ?_
  refine ⟨v204, ?_, ?_, hB210.bel⟩
  · rw [show allE (l.map (·.1)) = 0 by simpa using hc19]
  · unfold nKeys; rw [hc19, cond_false, hf207]; exact ho206

set_option maxHeartbeats 4000000 in
set_option maxRecDepth 20000 in
theorem p17 (l : List InA) (A : Option Addr) (c : Nat) (w : World) (hn : l.length ≤ 5000) (hr : Rd w A (insc l)) (hl : Lr w l) : Calls Tryz.prog 17 #[.slice A l.length c] w (fun e w' => ∃ v : Value, e = .returned (.tuple #[v, .int .i64 (allE (l.map (·.1)))]) ∧ w'.ownsRow w.heap.size 44 3 v (nKeys (allE (l.map (·.1))) (posA (l.map (·.1)) [])).length ((nKeys (allE (l.map (·.1))) (posA (l.map (·.1)) [])).flatMap (posC (posA (l.map (·.1)) []))) ∧ Below w.heap.size w w') := by
  refine enter Tryz.func17 (by kernel_rfl) ?_ (by kernel_rfl)
  intro q0 h0
  replace h0 := h0.conv (l' := [(0, .slice A l.length c)]) rfl
  have hB := Bx.refl w
  refine kS ?_
  refine rp 2 ?_
  refine b0 (.C 0 2 <| .C 1 3 <| .nil) [(3, .int .i64 0), (2, .slice none 0 0), (0, .slice A l.length c)] h0 (Kw.nil hB) fun q1 h2 => ?_
  clear h0
  refine wpO_end ?_
  refine then_n ?_
  refine kS ?_
  refine kS ?_
  refine rp 3 ?_
  refine b0 (.C 0 10 <| .nil) [(10, .slice A l.length c), (3, .int .i64 0), (2, .slice none 0 0), (0, .slice A l.length c)] h2 (Kw.nil hB) fun q3 h4 => ?_
  clear h2
  refine sC 1 11 h4 gok_none (p39 l A c w hn (hr.below hB.bel) (hl.below hB.bel)) ?_
  rintro _ w7 ⟨rfl, hb8⟩
  have hB9 := hB.call hb8
  refine ⟨_, rfl, trivial, fun q5 h6 => ?_⟩
  clear h4 hB hb8
  refine b0 (.C 2 4 <| .nil) [(4, .int .i64 (allE (l.map (·.1)))), (3, .int .i64 0), (2, .slice none 0 0), (0, .slice A l.length c)] h6 (Kw.nil hB9) fun q10 h11 => ?_
  clear h6
  refine wpO_end ?_
  refine then_n ?_
  refine kS ?_
  refine rp 2 ?_
  refine b0 (.C 0 12 <| .E 1 13 (.bool (allE (l.map (·.1)) != (0 : Int))) <| .nil) [(13, .bool (allE (l.map (·.1)) != (0 : Int))), (4, .int .i64 (allE (l.map (·.1)))), (3, .int .i64 0), (2, .slice none 0 0), (0, .slice A l.length c)] h11 (Kw.nil hB9) fun q12 h13 => ?_
  clear h11
  refine wpO_end ?_
  refine then_n ?_
  refine kC 13 (allE (l.map (·.1)) != (0 : Int)) h13 (fun hc14 => ?_) (fun hc14 => ?_)
  ·
    refine kS ?_
    refine rp 3 ?_
    refine b0 (.C 0 14 <| .C 1 2 <| .C 2 3 <| .nil) [(3, .int .i64 (allE (l.map (·.1)))), (2, .slice none 0 0), (0, .slice A l.length c)] h13 (Kw.nil hB9) fun q15 h16 => ?_
    clear h13
    refine wpO_end ?_
    refine then_n ?_
    refine c_ret (by kernel_rfl) ?_
    refine then_r ?_
    refine ret2 (t := 2) (u := 3) (v := .slice none 0 0) (v' := .int .i64 (allE (l.map (·.1)))) h16 (by kernel_rfl) (by kernel_rfl) (by kernel_rfl) ?_
    refine ⟨_, rfl, ?_, hB9.bel⟩
    unfold nKeys; rw [hc14]; exact own_nil _ _ _ _
  have hok := all_ok (l := l.map (·.1)) (by simpa using hc14)
  refine c_skip (by kernel_rfl) ?_
  refine then_n ?_
  refine kS ?_
  refine rp 2 ?_
  refine sA 0 15 (fun b => .map (some b)) (.map #[] 0) h13 gok_none hB9 (fun _ _ hq => trivial) (fun b19 w20 hB21 hN q17 h18 => ?_)
  clear h13 hB9 hN
  refine b0 (.C 1 5 <| .nil) [(5, .map (some b19)), (3, .int .i64 0), (2, .slice none 0 0), (0, .slice A l.length c)] h18 (Kw.nil hB21) fun q22 h23 => ?_
  clear h18
  refine wpO_end ?_
  refine then_n ?_
  refine kS ?_
  refine kS ?_
  refine rp 3 ?_
  refine b0 (.C 0 16 <| .E 1 17 (.int .i64 ((l.length : Nat) : Int)) <| .C 2 18 <| .nil) [(18, .int .i64 0), (17, .int .i64 ((l.length : Nat) : Int)), (16, .slice A l.length c), (5, .map (some b19)), (3, .int .i64 0), (2, .slice none 0 0)] h23 (Kw.nil hB21) fun q24 h25 => ?_
  clear h23
  refine wpO_end ?_
  refine then_n ?_
  refine c_block 0 (by kernel_rfl) ?_
  refine c_loop (by kernel_rfl) (fun qa qw => ∃ k : Nat, ∃ (es : Array MapEntry) (clk : Nat) (M : List (ByteArray × Pos)), (k ≤ l.length) ∧ Fr 53 [(16, .slice A l.length c), (17, .int .i64 ((l.length : Nat) : Int)), (18, .int .i64 ((k : Nat) : Int)), (5, .map (some b19))] qa ∧ Bx w [(b19, .map es clk)] qw ∧ (MapT Tryz.prog 9 eKs eP es clk M) ∧ (posA (l.map (·.1)) [] = posA ((l.drop k).map (·.1)) M)) (fun qa _ => (((l.length : Int)) - intAt qa 18).toNat) ⟨0, _, _, [], Nat.zero_le _, h25.keep _ ⟨rfl, rfl, rfl, rfl, trivial⟩, hB21, (MapT.empty : MapT Tryz.prog 9 eKs eP #[] 0 []), rfl⟩ ?_
  rintro q26 w27 ⟨k, es, clk, M, hk30, h28, hB29, hx32, hx33⟩
  have hm31 := h28.int (k := 18) (kd := .i64) (z := ((k : Nat) : Int)) rfl
  clear h25 hB21
  refine kS ?_
  refine rp 1 ?_
  refine b0 (.E 0 19 (.bool (decide (((k : Nat) : Int) < ((l.length : Nat) : Int)))) <| .nil) [(19, .bool (decide (((k : Nat) : Int) < ((l.length : Nat) : Int)))), (16, .slice A l.length c), (17, .int .i64 ((l.length : Nat) : Int)), (18, .int .i64 ((k : Nat) : Int)), (5, .map (some b19))] h28 (Kw.nil hB29) fun q34 h35 => ?_
  clear h28
  refine wpO_end ?_
  refine then_n ?_
  refine kS ?_
  refine kC 19 (decide (((k : Nat) : Int) < ((l.length : Nat) : Int))) h35 (fun hc36 => ?_) (fun hc36 => ?_)
  ·
    have hp37 : (((k : Nat) : Int) < ((l.length : Nat) : Int)) := of_decide_eq_true hc36
    have hltx : k < l.length := by omega
    obtain ⟨x, hx⟩ : ∃ x, l[k]? = some x := ⟨l[k], List.getElem?_eq_getElem hltx⟩
    obtain ⟨ad, hA_, hE0⟩ := hr.el (k * 16) (inC x) (by intro h; cases h) (insc_el l k x hx)
    subst hA_
    obtain ⟨hcx, hnx, hrx⟩ := hl x (List.mem_of_getElem? hx)
    have hpx := hok x.1 (List.mem_map.2 ⟨x, List.mem_of_getElem? hx, rfl⟩)
    refine c_skip (by kernel_rfl) ?_
    refine then_n ?_
    refine kS ?_
    refine c_block 1 (by kernel_rfl) ?_
    refine kS ?_
    refine rp 4 ?_
    refine eE 0 20 (.indexAddr 23 (.tmp 16) (.tmp 18)) 0 (.pointer (some ((ad.add (k * 16)).add 0))) h35 (hr := r_index0 (n := l.length) (c := c) (kd := .i64) (by kernel_rfl) (by kernel_rfl) hltx (by kernel_rfl)) fun q38 h39 => ?_
    clear h35
    refine b0 (.Y 1 21 0 0 16 <| .nil) [(21, insV x.1 x.2.1 x.2.2), (19, .bool (decide (((k : Nat) : Int) < ((l.length : Nat) : Int)))), (16, .slice (some ad) l.length c), (17, .int .i64 ((l.length : Nat) : Int)), (18, .int .i64 ((k : Nat) : Int)), (5, .map (some b19))] h39 ((Kw.nil hB29).cons (hE0.below hB29.bel)) fun q40 h41 => ?_
    clear h39
    refine sA 2 7 (fun b => .pointer (some ⟨b, 0, none⟩)) (.cells #[.string (⟨#[]⟩ : ByteArray), .int .i64 0, .string (⟨#[]⟩ : ByteArray), .string (⟨#[]⟩ : ByteArray), .int .i64 0, .string (⟨#[]⟩ : ByteArray), .int .i64 0, .int .i64 0, .int .i64 0, .int .i64 0, .int .i64 0, .bool false, .int .i64 0, .bool false, .bool false, .slice none 0 0] 30 (0, 0)) h41 gok_none hB29 (fun _ _ hq => trivial) (fun b44 w45 hB46 hN q42 h43 => ?_)
    clear h41 hB29 hN
    refine sW 3 0 0 [(b44, .cells (insV x.1 x.2.1 x.2.2).cells 30 (0, 0)), (b19, .map es clk)] h43 gok_none hB46 (.inr fun _ _ => trivial) (fun w49 hB50 hT q47 h48 => ?_)
    clear h43 hB46
    clear hT
    refine wpO_end ?_
    have h51 := h48.keep [(7, .pointer (some ⟨b44, 0, none⟩)), (19, .bool (decide (((k : Nat) : Int) < ((l.length : Nat) : Int)))), (16, .slice (some ad) l.length c), (17, .int .i64 ((l.length : Nat) : Int)), (18, .int .i64 ((k : Nat) : Int)), (5, .map (some b19))] ⟨rfl, rfl, rfl, rfl, rfl, rfl, trivial⟩
    clear h48
    refine then_n ?_
    refine kS ?_
    refine c_cut (fun qa qw => ∃ (b72 : Nat) (b77 : Nat), Fr 53 [(9, .pointer (some ⟨b77, 0, none⟩)), (8, .pointer (some ⟨b72, 0, none⟩)), (7, .pointer (some ⟨b44, 0, none⟩)), (19, .bool (decide (((k : Nat) : Int) < ((l.length : Nat) : Int)))), (16, .slice (some ad) l.length c), (17, .int .i64 ((l.length : Nat) : Int)), (18, .int .i64 ((k : Nat) : Int)), (5, .map (some b19))] qa ∧ Bx w [(b77, .cells #[.string ((lkD M x.1.cpty Pos.z).mem), .int .i64 ((lkD M x.1.cpty Pos.z).paid), .int .i64 ((lkD M x.1.cpty Pos.z).rcvd)] 44 (0, 0)), (b72, .cells #[.string ((lkD M x.1.sender Pos.z).mem), .int .i64 ((lkD M x.1.sender Pos.z).paid), .int .i64 ((lkD M x.1.sender Pos.z).rcvd)] 44 (0, 0)), (b44, .cells (insV x.1 x.2.1 x.2.2).cells 30 (0, 0)), (b19, .map es clk)] qw) ?_ ?_
    ·
      have hD88 := hB50.drew
      refine reg_plan (S := Bx w [(b44, .cells (insV x.1 x.2.1 x.2.2).cells 30 (0, 0)), (b19, .map es clk)]) 12 [⟨0, true, 0, 32, 4194304⟩, ⟨1, true, 0, 128, 8388608⟩, ⟨2, true, 2, 8388608, 16777216⟩, ⟨3, true, 5, 20971520, 33554432⟩, ⟨4, true, 0, 32, 67108864⟩, ⟨5, true, 0, 128, 134217728⟩, ⟨6, true, 32, 134217728, 268435456⟩, ⟨7, true, 80, 335544320, 536870912⟩, ⟨8, false, 0, 0, 256⟩, ⟨9, false, 0, 0, 512⟩, ⟨10, false, 783, 33554688, 0⟩, ⟨11, false, 2047, 536871424, 0⟩] (.free ⟨0, true, 0, 32, 4194304⟩ (.free ⟨1, true, 0, 128, 8388608⟩ (.free ⟨2, true, 2, 8388608, 16777216⟩ (.free ⟨3, true, 5, 20971520, 33554432⟩ (.free ⟨4, true, 0, 32, 67108864⟩ (.free ⟨5, true, 0, 128, 134217728⟩ (.free ⟨6, true, 32, 134217728, 268435456⟩ (.free ⟨7, true, 80, 335544320, 536870912⟩ (.alt ⟨8, false, 0, 0, 256⟩ (.alt ⟨9, false, 0, 0, 512⟩ (.alt ⟨10, false, 783, 33554688, 0⟩ (.alt ⟨11, false, 2047, 536871424, 0⟩ (.done) (.none)) (.none)) (.none)) (.alt ⟨9, false, 0, 0, 512⟩ (.alt ⟨8, false, 0, 0, 256⟩ (.alt ⟨10, false, 783, 33554688, 0⟩ (.alt ⟨11, false, 2047, 536871424, 0⟩ (.done) (.none)) (.none)) (.none)) (.none))))))))))) (by kernel_rfl) (by kernel_rfl) (by kernel_rfl) (fun _ _ _ _ h => absurd h.2 (by simp)) hD88 ?_
      generalize World.drew w49 = w89 at hD88 ⊢
      refine p_free ?_
      refine fE 0 22 (.move (.tmp 5)) 102 (.map (some b19)) h51 fun q90 h91 => ?_
      clear h51
      refine wpO_end ?_
      refine cut_n ?_
      refine p_free ?_
      refine fE 1 23 (.fieldAddr 30 (.tmp 7) 2) 0 (.pointer (some ⟨b44, 2, none⟩)) h91 fun q92 h93 => ?_
      clear h91
      refine wpO_end ?_
      refine cut_n ?_
      refine p_free ?_
      refine fE 2 24 (.load 9 (.tmp 23)) 9 (.string x.1.sender) h93 (hr := fun _ hS => r_loadC (b := b44) (v := .string x.1.sender) hS 0 2 (by kernel_rfl) (by kernel_rfl) (by kernel_rfl)) fun q94 h95 => ?_
      clear h93
      refine wpO_end ?_
      refine cut_n ?_
      refine p_free ?_
      refine fE 3 25 (.lookup 102 (.tmp 22) (.tmp 24) false) 44 (.agg #[.string ((lkD M x.1.sender Pos.z).mem), .int .i64 ((lkD M x.1.sender Pos.z).paid), .int .i64 ((lkD M x.1.sender Pos.z).rcvd)]) h95 (hr := fun _ hS => r_lookup hS 1 (k := x.1.sender) (d := Pos.z) rfl hx32 Kstr eKs_inj (hk_str _ (memB_size hpx.snd).1) (by kernel_rfl) Tryz.zeroValue44 rfl rfl) fun q96 h97 => ?_
      clear h95
      refine wpO_end ?_
      refine cut_n ?_
      refine p_free ?_
      refine fE 4 26 (.move (.tmp 5)) 102 (.map (some b19)) h97 fun q98 h99 => ?_
      clear h97
      refine wpO_end ?_
      refine cut_n ?_
      refine p_free ?_
      refine fE 5 27 (.fieldAddr 30 (.tmp 7) 3) 0 (.pointer (some ⟨b44, 3, none⟩)) h99 fun q100 h101 => ?_
      clear h99
      refine wpO_end ?_
      refine cut_n ?_
      refine p_free ?_
      refine fE 6 28 (.load 9 (.tmp 27)) 9 (.string x.1.cpty) h101 (hr := fun _ hS => r_loadC (b := b44) (v := .string x.1.cpty) hS 0 3 (by kernel_rfl) (by kernel_rfl) (by kernel_rfl)) fun q102 h103 => ?_
      clear h101
      refine wpO_end ?_
      refine cut_n ?_
      refine p_free ?_
      refine fE 7 29 (.lookup 102 (.tmp 26) (.tmp 28) false) 44 (.agg #[.string ((lkD M x.1.cpty Pos.z).mem), .int .i64 ((lkD M x.1.cpty Pos.z).paid), .int .i64 ((lkD M x.1.cpty Pos.z).rcvd)]) h103 (hr := fun _ hS => r_lookup hS 1 (k := x.1.cpty) (d := Pos.z) rfl hx32 Kstr eKs_inj (hk_str _ (memB_size hpx.cpt).1) (by kernel_rfl) Tryz.zeroValue44 rfl rfl) fun q104 h105 => ?_
      clear h103
      refine wpO_end ?_
      refine cut_n ?_
      refine p_alt ?_ ?_
      ·
        refine sA 8 8 (fun b => .pointer (some ⟨b, 0, none⟩)) (.cells #[.string (⟨#[]⟩ : ByteArray), .int .i64 0, .int .i64 0] 44 (0, 0)) h105 gok_none hD88 (fun _ _ hq => hq.tail) (fun b108 w109 hB110 hN q106 h107 => ?_)
        clear h105 hD88 hN
        refine wpO_end ?_
        refine cut_n ?_
        refine p_alt ?_ ?_
        ·
          refine sA 9 9 (fun b => .pointer (some ⟨b, 0, none⟩)) (.cells #[.string (⟨#[]⟩ : ByteArray), .int .i64 0, .int .i64 0] 44 (0, 0)) h107 gok_none hB110 (fun _ _ hq => hq.tail.tail) (fun b113 w114 hB115 hN q111 h112 => ?_)
          clear h107 hB110 hN
          refine wpO_end ?_
          refine cut_n ?_
          refine p_alt ?_ ?_
          ·
            refine sW 10 1 0 [(b113, .cells #[.string (⟨#[]⟩ : ByteArray), .int .i64 0, .int .i64 0] 44 (0, 0)), (b108, .cells #[.string ((lkD M x.1.sender Pos.z).mem), .int .i64 ((lkD M x.1.sender Pos.z).paid), .int .i64 ((lkD M x.1.sender Pos.z).rcvd)] 44 (0, 0)), (b44, .cells (insV x.1 x.2.1 x.2.2).cells 30 (0, 0)), (b19, .map es clk)] h112 gok_none hB115 (.inr fun _ hq => hq.tail.tail) (fun w118 hB119 hT q116 h117 => ?_)
            clear h112 hB115
            clear hT
            refine wpO_end ?_
            refine cut_n ?_
            refine p_alt ?_ ?_
            ·
              refine sW 11 0 0 [(b113, .cells #[.string ((lkD M x.1.cpty Pos.z).mem), .int .i64 ((lkD M x.1.cpty Pos.z).paid), .int .i64 ((lkD M x.1.cpty Pos.z).rcvd)] 44 (0, 0)), (b108, .cells #[.string ((lkD M x.1.sender Pos.z).mem), .int .i64 ((lkD M x.1.sender Pos.z).paid), .int .i64 ((lkD M x.1.sender Pos.z).rcvd)] 44 (0, 0)), (b44, .cells (insV x.1 x.2.1 x.2.2).cells 30 (0, 0)), (b19, .map es clk)] h117 gok_none hB119 (.inr fun _ hq => hq.tail.tail) (fun w122 hB123 hT q120 h121 => ?_)
              clear h117 hB119
              clear hT
              refine wpO_end ?_
              refine cut_n ?_
              refine p_done ?_
              exact cut_n ⟨b108, b113, h121.keep _ ⟨rfl, rfl, rfl, rfl, rfl, rfl, rfl, rfl, trivial⟩, hB123.sel [0, 1, 2, 3] (by decide) rfl⟩
            exact p_none
          exact p_none
        exact p_none
      refine p_alt ?_ ?_
      ·
        refine sA 9 9 (fun b => .pointer (some ⟨b, 0, none⟩)) (.cells #[.string (⟨#[]⟩ : ByteArray), .int .i64 0, .int .i64 0] 44 (0, 0)) h105 gok_none hD88 (fun _ _ hq => hq.tail) (fun b126 w127 hB128 hN q124 h125 => ?_)
        clear h105 hD88 hN
        refine wpO_end ?_
        refine cut_n ?_
        refine p_alt ?_ ?_
        ·
          refine sA 8 8 (fun b => .pointer (some ⟨b, 0, none⟩)) (.cells #[.string (⟨#[]⟩ : ByteArray), .int .i64 0, .int .i64 0] 44 (0, 0)) h125 gok_none hB128 (fun _ _ hq => hq.tail.tail) (fun b131 w132 hB133 hN q129 h130 => ?_)
          clear h125 hB128 hN
          refine wpO_end ?_
          refine cut_n ?_
          refine p_alt ?_ ?_
          ·
            refine sW 10 0 0 [(b131, .cells #[.string ((lkD M x.1.sender Pos.z).mem), .int .i64 ((lkD M x.1.sender Pos.z).paid), .int .i64 ((lkD M x.1.sender Pos.z).rcvd)] 44 (0, 0)), (b126, .cells #[.string (⟨#[]⟩ : ByteArray), .int .i64 0, .int .i64 0] 44 (0, 0)), (b44, .cells (insV x.1 x.2.1 x.2.2).cells 30 (0, 0)), (b19, .map es clk)] h130 gok_none hB133 (.inr fun _ hq => hq.tail.tail) (fun w136 hB137 hT q134 h135 => ?_)
            clear h130 hB133
            clear hT
            refine wpO_end ?_
            refine cut_n ?_
            refine p_alt ?_ ?_
            ·
              refine sW 11 1 0 [(b131, .cells #[.string ((lkD M x.1.sender Pos.z).mem), .int .i64 ((lkD M x.1.sender Pos.z).paid), .int .i64 ((lkD M x.1.sender Pos.z).rcvd)] 44 (0, 0)), (b126, .cells #[.string ((lkD M x.1.cpty Pos.z).mem), .int .i64 ((lkD M x.1.cpty Pos.z).paid), .int .i64 ((lkD M x.1.cpty Pos.z).rcvd)] 44 (0, 0)), (b44, .cells (insV x.1 x.2.1 x.2.2).cells 30 (0, 0)), (b19, .map es clk)] h135 gok_none hB137 (.inr fun _ hq => hq.tail.tail) (fun w140 hB141 hT q138 h139 => ?_)
              clear h135 hB137
              clear hT
              refine wpO_end ?_
              refine cut_n ?_
              refine p_done ?_
              exact cut_n ⟨b131, b126, h139.keep _ ⟨rfl, rfl, rfl, rfl, rfl, rfl, rfl, rfl, trivial⟩, hB141.sel [1, 0, 2, 3] (by decide) rfl⟩
            exact p_none
          exact p_none
        exact p_none
      exact p_none
    rintro q142 w143 ⟨b72, b77, h144, hB145⟩
    refine then_n ?_
    refine kS ?_
    refine rp 7 ?_
    refine b0 (.C 0 30 <| .L 1 31 1 1 <| .C 2 32 <| .L 3 33 2 7 <| .E 4 34 (.int .i64 (IntKind.i64.wrap (((lkD M x.1.sender Pos.z).paid) + x.1.amt))) <| .C 5 35 <| .nil) [(35, .pointer (some ⟨b72, 1, none⟩)), (34, .int .i64 (IntKind.i64.wrap (((lkD M x.1.sender Pos.z).paid) + x.1.amt))), (9, .pointer (some ⟨b77, 0, none⟩)), (8, .pointer (some ⟨b72, 0, none⟩)), (7, .pointer (some ⟨b44, 0, none⟩)), (19, .bool (decide (((k : Nat) : Int) < ((l.length : Nat) : Int)))), (16, .slice (some ad) l.length c), (17, .int .i64 ((l.length : Nat) : Int)), (18, .int .i64 ((k : Nat) : Int)), (5, .map (some b19))] h144 (Kw.nil hB145) fun q146 h147 => ?_
    clear h144
    refine sW 6 1 1 [(b77, .cells #[.string ((lkD M x.1.cpty Pos.z).mem), .int .i64 ((lkD M x.1.cpty Pos.z).paid), .int .i64 ((lkD M x.1.cpty Pos.z).rcvd)] 44 (0, 0)), (b72, .cells #[.string ((lkD M x.1.sender Pos.z).mem), .int .i64 (IntKind.i64.wrap (((lkD M x.1.sender Pos.z).paid) + x.1.amt)), .int .i64 ((lkD M x.1.sender Pos.z).rcvd)] 44 (0, 0)), (b44, .cells (insV x.1 x.2.1 x.2.2).cells 30 (0, 0)), (b19, .map es clk)] h147 gok_none hB145 (.inr fun _ _ => trivial) (fun w150 hB151 hT q148 h149 => ?_)
    clear h147 hB145
    clear hT
    refine wpO_end ?_
    have h152 := h149.keep [(9, .pointer (some ⟨b77, 0, none⟩)), (8, .pointer (some ⟨b72, 0, none⟩)), (7, .pointer (some ⟨b44, 0, none⟩)), (19, .bool (decide (((k : Nat) : Int) < ((l.length : Nat) : Int)))), (16, .slice (some ad) l.length c), (17, .int .i64 ((l.length : Nat) : Int)), (18, .int .i64 ((k : Nat) : Int)), (5, .map (some b19))] ⟨rfl, rfl, rfl, rfl, rfl, rfl, rfl, rfl, trivial⟩
    clear h149
    refine then_n ?_
    refine kS ?_
    refine rp 7 ?_
    refine b0 (.C 0 36 <| .L 1 37 0 2 <| .C 2 38 <| .L 3 39 2 7 <| .E 4 40 (.int .i64 (IntKind.i64.wrap (((lkD M x.1.cpty Pos.z).rcvd) + x.1.amt))) <| .C 5 41 <| .nil) [(41, .pointer (some ⟨b77, 2, none⟩)), (40, .int .i64 (IntKind.i64.wrap (((lkD M x.1.cpty Pos.z).rcvd) + x.1.amt))), (9, .pointer (some ⟨b77, 0, none⟩)), (8, .pointer (some ⟨b72, 0, none⟩)), (7, .pointer (some ⟨b44, 0, none⟩)), (19, .bool (decide (((k : Nat) : Int) < ((l.length : Nat) : Int)))), (16, .slice (some ad) l.length c), (17, .int .i64 ((l.length : Nat) : Int)), (18, .int .i64 ((k : Nat) : Int)), (5, .map (some b19))] h152 (Kw.nil hB151) fun q153 h154 => ?_
    clear h152
    refine sW 6 0 2 [(b77, .cells #[.string ((lkD M x.1.cpty Pos.z).mem), .int .i64 ((lkD M x.1.cpty Pos.z).paid), .int .i64 (IntKind.i64.wrap (((lkD M x.1.cpty Pos.z).rcvd) + x.1.amt))] 44 (0, 0)), (b72, .cells #[.string ((lkD M x.1.sender Pos.z).mem), .int .i64 (IntKind.i64.wrap (((lkD M x.1.sender Pos.z).paid) + x.1.amt)), .int .i64 ((lkD M x.1.sender Pos.z).rcvd)] 44 (0, 0)), (b44, .cells (insV x.1 x.2.1 x.2.2).cells 30 (0, 0)), (b19, .map es clk)] h154 gok_none hB151 (.inr fun _ _ => trivial) (fun w157 hB158 hT q155 h156 => ?_)
    clear h154 hB151
    clear hT
    refine wpO_end ?_
    have h159 := h156.keep [(9, .pointer (some ⟨b77, 0, none⟩)), (8, .pointer (some ⟨b72, 0, none⟩)), (7, .pointer (some ⟨b44, 0, none⟩)), (19, .bool (decide (((k : Nat) : Int) < ((l.length : Nat) : Int)))), (16, .slice (some ad) l.length c), (17, .int .i64 ((l.length : Nat) : Int)), (18, .int .i64 ((k : Nat) : Int)), (5, .map (some b19))] ⟨rfl, rfl, rfl, rfl, rfl, rfl, rfl, rfl, trivial⟩
    clear h156
    refine then_n ?_
    have hB160 : Bx w [(b19, .map es clk), (b77, .cells #[.string ((lkD M x.1.cpty Pos.z).mem), .int .i64 ((lkD M x.1.cpty Pos.z).paid), .int .i64 (IntKind.i64.wrap (((lkD M x.1.cpty Pos.z).rcvd) + x.1.amt))] 44 (0, 0)), (b72, .cells #[.string ((lkD M x.1.sender Pos.z).mem), .int .i64 (IntKind.i64.wrap (((lkD M x.1.sender Pos.z).paid) + x.1.amt)), .int .i64 ((lkD M x.1.sender Pos.z).rcvd)] 44 (0, 0)), (b44, .cells (insV x.1 x.2.1 x.2.2).cells 30 (0, 0))] w157 := hB158.sel [3, 0, 1, 2] (by decide) rfl
    clear hB158
    have hD161 := hB160.drew
    refine rd (Bx w [(b77, .cells #[.string ((lkD M x.1.cpty Pos.z).mem), .int .i64 ((lkD M x.1.cpty Pos.z).paid), .int .i64 (IntKind.i64.wrap (((lkD M x.1.cpty Pos.z).rcvd) + x.1.amt))] 44 (0, 0)), (b72, .cells #[.string ((lkD M x.1.sender Pos.z).mem), .int .i64 (IntKind.i64.wrap (((lkD M x.1.sender Pos.z).paid) + x.1.amt)), .int .i64 ((lkD M x.1.sender Pos.z).rcvd)] 44 (0, 0)), (b44, .cells (insV x.1 x.2.1 x.2.2).cells 30 (0, 0))]) 10 [⟨0, true, 0, 32, 4398046511104⟩, ⟨1, true, 0, 128, 8796093022208⟩, ⟨2, true, 2, 8796093022208, 17592186044416⟩, ⟨3, true, 0, 32, 35184372088832⟩, ⟨4, true, 0, 128, 70368744177664⟩, ⟨5, true, 16, 70368744177664, 140737488355328⟩, ⟨6, true, 0, 256, 281474976710656⟩, ⟨7, true, 0, 512, 562949953421312⟩, ⟨8, false, 71, 303465209266176, 0⟩, ⟨9, false, 511, 738871813865472, 0⟩] hD161.tail ?_
    generalize World.drew w157 = w162 at hD161 ⊢
    refine d0 (.C 0 42 <| .C 1 43 <| .L 2 44 2 2 <| .C 3 45 <| .C 4 46 <| .L 5 47 2 3 <| .S 6 48 1 0 3 <| .S 7 49 0 0 3 <| .nil) [(49, .agg #[.string ((lkD M x.1.cpty Pos.z).mem), .int .i64 ((lkD M x.1.cpty Pos.z).paid), .int .i64 (IntKind.i64.wrap (((lkD M x.1.cpty Pos.z).rcvd) + x.1.amt))]), (48, .agg #[.string ((lkD M x.1.sender Pos.z).mem), .int .i64 (IntKind.i64.wrap (((lkD M x.1.sender Pos.z).paid) + x.1.amt)), .int .i64 ((lkD M x.1.sender Pos.z).rcvd)]), (47, .string x.1.cpty), (45, .map (some b19)), (44, .string x.1.sender), (42, .map (some b19)), (9, .pointer (some ⟨b77, 0, none⟩)), (8, .pointer (some ⟨b72, 0, none⟩)), (7, .pointer (some ⟨b44, 0, none⟩)), (19, .bool (decide (((k : Nat) : Int) < ((l.length : Nat) : Int)))), (16, .slice (some ad) l.length c), (17, .int .i64 ((l.length : Nat) : Int)), (18, .int .i64 ((k : Nat) : Int)), (5, .map (some b19))] h159 (fun _ hS => Kw.nil hS) fun q163 h164 => ?_
    clear h159
    refine sMU (et := 44) (t := 102) (x := (Operand.tmp 42)) (y := (Operand.tmp 44)) (z := (Operand.tmp 48)) (ty := 0) 8 0 (k := x.1.sender) (v := ⟨(lkD M x.1.sender Pos.z).mem, IntKind.i64.wrap (((lkD M x.1.sender Pos.z).paid) + x.1.amt), (lkD M x.1.sender Pos.z).rcvd⟩) (eV := eP) h164 hD161 rfl hx32 Kstr eKs_inj (hk_str _ (memB_size hpx.snd).1) (by kernel_rfl) (by kernel_rfl) (by kernel_rfl) rfl rfl rfl (fun _ _ _ hq => .inr (hq.tail)) (fun es167 clk168 w169 hM170 hB171 hP172 q165 h166 => ?_)
    clear h164 hD161
    replace hB171 : Bx w [(b19, .map es167 clk168), (b77, .cells #[.string ((lkD M x.1.cpty Pos.z).mem), .int .i64 ((lkD M x.1.cpty Pos.z).paid), .int .i64 (IntKind.i64.wrap (((lkD M x.1.cpty Pos.z).rcvd) + x.1.amt))] 44 (0, 0)), (b72, .cells #[.string ((lkD M x.1.sender Pos.z).mem), .int .i64 (IntKind.i64.wrap (((lkD M x.1.sender Pos.z).paid) + x.1.amt)), .int .i64 ((lkD M x.1.sender Pos.z).rcvd)] 44 (0, 0)), (b44, .cells (insV x.1 x.2.1 x.2.2).cells 30 (0, 0))] w169 := hB171
    clear hP172
    refine sMU (et := 44) (t := 102) (x := (Operand.tmp 45)) (y := (Operand.tmp 47)) (z := (Operand.tmp 49)) (ty := 0) 9 0 (k := x.1.cpty) (v := ⟨(lkD M x.1.cpty Pos.z).mem, (lkD M x.1.cpty Pos.z).paid, IntKind.i64.wrap (((lkD M x.1.cpty Pos.z).rcvd) + x.1.amt)⟩) (eV := eP) h166 hB171 rfl hM170 Kstr eKs_inj (hk_str _ (memB_size hpx.cpt).1) (by kernel_rfl) (by kernel_rfl) (by kernel_rfl) rfl rfl rfl (fun _ _ _ hq => .inr (hq.tail)) (fun es175 clk176 w177 hM178 hB179 hP180 q173 h174 => ?_)
    clear h166 hB171
    replace hB179 : Bx w [(b19, .map es175 clk176), (b77, .cells #[.string ((lkD M x.1.cpty Pos.z).mem), .int .i64 ((lkD M x.1.cpty Pos.z).paid), .int .i64 (IntKind.i64.wrap (((lkD M x.1.cpty Pos.z).rcvd) + x.1.amt))] 44 (0, 0)), (b72, .cells #[.string ((lkD M x.1.sender Pos.z).mem), .int .i64 (IntKind.i64.wrap (((lkD M x.1.sender Pos.z).paid) + x.1.amt)), .int .i64 ((lkD M x.1.sender Pos.z).rcvd)] 44 (0, 0)), (b44, .cells (insV x.1 x.2.1 x.2.2).cells 30 (0, 0))] w177 := hB179
    clear hP180
    refine wpO_end ?_
    have h181 := h174.keep [(9, .pointer (some ⟨b77, 0, none⟩)), (8, .pointer (some ⟨b72, 0, none⟩)), (7, .pointer (some ⟨b44, 0, none⟩)), (19, .bool (decide (((k : Nat) : Int) < ((l.length : Nat) : Int)))), (16, .slice (some ad) l.length c), (17, .int .i64 ((l.length : Nat) : Int)), (18, .int .i64 ((k : Nat) : Int)), (5, .map (some b19))] ⟨rfl, rfl, rfl, rfl, rfl, rfl, rfl, rfl, trivial⟩
    clear h174
    refine inB_n ?_
    refine then_n ?_
    refine rp 2 ?_
    refine b0 (.E 0 50 (.int .i64 (IntKind.i64.wrap (((k : Nat) : Int) + 1))) <| .C 1 18 <| .nil) [(18, .int .i64 (IntKind.i64.wrap (((k : Nat) : Int) + 1))), (9, .pointer (some ⟨b77, 0, none⟩)), (8, .pointer (some ⟨b72, 0, none⟩)), (7, .pointer (some ⟨b44, 0, none⟩)), (19, .bool (decide (((k : Nat) : Int) < ((l.length : Nat) : Int)))), (16, .slice (some ad) l.length c), (17, .int .i64 ((l.length : Nat) : Int)), (5, .map (some b19))] h181 (Kw.nil hB179) fun q182 h183 => ?_
    clear h181
    refine wpO_end ?_
    have hB184 : Bx w [(b77, .cells #[.string ((lkD M x.1.cpty Pos.z).mem), .int .i64 ((lkD M x.1.cpty Pos.z).paid), .int .i64 (IntKind.i64.wrap (((lkD M x.1.cpty Pos.z).rcvd) + x.1.amt))] 44 (0, 0)), (b72, .cells #[.string ((lkD M x.1.sender Pos.z).mem), .int .i64 (IntKind.i64.wrap (((lkD M x.1.sender Pos.z).paid) + x.1.amt)), .int .i64 ((lkD M x.1.sender Pos.z).rcvd)] 44 (0, 0)), (b44, .cells (insV x.1 x.2.1 x.2.2).cells 30 (0, 0)), (b19, .map es175 clk176)] w177 := hB179.sel [1, 2, 3, 0] (by decide) rfl
    clear hB179
    have h185 := h183.keep [(16, .slice (some ad) l.length c), (17, .int .i64 ((l.length : Nat) : Int)), (18, .int .i64 (((k + 1) : Nat) : Int)), (5, .map (some b19))] ⟨rfl, rfl, look_int rfl (wrap_succ (by omega)), rfl, trivial⟩
    have hm186 := h185.int (k := 18) (kd := .i64) (z := (((k + 1) : Nat) : Int)) rfl
    refine then_n ⟨⟨k + 1, es175, clk176, posS M x.1, by omega, h185, hB184.tail.tail.tail, hM178, hx33.trans (posA_at hx M)⟩, ?_⟩
    show (((l.length : Int)) - intAt _ 18).toNat < (((l.length : Int)) - intAt _ 18).toNat
    rw [hm31, hm186]; omega
  have hp187 : ¬ (((k : Nat) : Int) < ((l.length : Nat) : Int)) := of_decide_eq_false hc36
  refine c_exit 0 (by kernel_rfl) ?_
  refine then_e (then_e (inB_hit ?_))
  refine then_n ?_
  refine kS ?_
  refine rp 4 ?_
  refine b0 (.C 0 51 <| .nil) [(51, .map (some b19))] h35 (Kw.nil hB29) fun q188 h189 => ?_
  clear h35
  have hf195 : posA (l.map (·.1)) [] = M := hx33.trans (posA_end (by omega) M)
  have hMl : M.length ≤ 10000 := by have := posA_len (l.map (·.1)) []; rw [hf195, List.length_map, List.length_nil] at this; omega
  have hMk : ∀ s ∈ M.map (·.1), s.size ≤ 8 := by rw [← hf195]; exact pos_keys hok [] (by simp)
  refine sC 1 52 h189 gok_none (p40 b19 es clk M w27 hMl hMk (hB29.at 0 rfl) hx32) ?_
  rintro _ w196 ⟨v192, rfl, ho193, hb197⟩
  have ho194 := own_base ho193 hB29.bel.size
  have hB198 := hB29.call hb197
  refine ⟨_, rfl, trivial, fun q190 h191 => ?_⟩
  clear h189 hB29 hb197
  refine b0 (.C 2 2 <| .C 3 3 <| .nil) [(3, .int .i64 0), (2, v192)] h191 (Kw.nil hB198) fun q199 h200 => ?_
  clear h191
  refine wpO_end ?_
  refine then_n ?_
  refine c_ret (by kernel_rfl) ?_
  refine ret2 (t := 2) (u := 3) (v := v192) (v' := .int .i64 0) h200 (by kernel_rfl) (by kernel_rfl) (by kernel_rfl) ?_
  refine ⟨v192, ?_, ?_, hB198.bel⟩
  · rw [show allE (l.map (·.1)) = 0 by simpa using hc14]
  · unfold nKeys; rw [hc14, cond_false, hf195]; exact ho194

set_option maxHeartbeats 4000000 in
set_option maxRecDepth 20000 in
theorem p15 (l : List InA) (A : Option Addr) (c : Nat) (w : World) (hn : l.length ≤ 5000) (hr : Rd w A (insc l)) (hl : Lr w l) : Calls Tryz.prog 15 #[.slice A l.length c] w (fun e w' => ∃ v : Value, e = .returned (.tuple #[v, .int .i64 (allE (l.map (·.1)))]) ∧ w'.ownsRow w.heap.size 42 2 v (nKeys (allE (l.map (·.1))) (useA (l.map (·.1)) [])).length ((nKeys (allE (l.map (·.1))) (useA (l.map (·.1)) [])).flatMap (needC hMost (useA (l.map (·.1)) []))) ∧ Below w.heap.size w w') := by
  refine enter Tryz.func15 (by kernel_rfl) ?_ (by kernel_rfl)
  intro q0 h0
  replace h0 := h0.conv (l' := [(0, .slice A l.length c)]) rfl
  have hB := Bx.refl w
  refine kS ?_
  refine rp 2 ?_
  refine b0 (.C 0 2 <| .C 1 3 <| .nil) [(3, .int .i64 0), (2, .slice none 0 0), (0, .slice A l.length c)] h0 (Kw.nil hB) fun q1 h2 => ?_
  clear h0
  refine wpO_end ?_
  refine then_n ?_
  refine kS ?_
  refine rp 6 ?_
  refine b0 (.C 0 4 <| .nil) [(4, .slice A l.length c), (3, .int .i64 0), (2, .slice none 0 0)] h2 (Kw.nil hB) fun q3 h4 => ?_
  clear h2
  refine sC 1 5 h4 gok_none (p36_37 l A c w hn (hr.below hB.bel) (hl.below hB.bel)) ?_
  rintro _ w10 ⟨v7, rfl, ho8, hb11⟩
  have ho9 := own_base ho8 hB.bel.size
  have hB12 := hB.call hb11
  refine ⟨_, rfl, trivial, fun q5 h6 => ?_⟩
  clear h4 hB hb11
  refine b0 (.E 2 6 v7 <| .E 3 7 (.int .i64 (allE (l.map (·.1)))) <| .C 4 2 <| .C 5 3 <| .nil) [(3, .int .i64 (allE (l.map (·.1)))), (2, v7)] h6 (Kw.nil hB12) fun q13 h14 => ?_
  clear h6
  refine wpO_end ?_
  refine then_n ?_
  refine c_ret (by kernel_rfl) ?_
  refine ret2 (t := 2) (u := 3) (v := v7) (v' := .int .i64 (allE (l.map (·.1)))) h14 (by kernel_rfl) (by kernel_rfl) (by kernel_rfl) ?_
  exact ⟨v7, rfl, ho9, hB12.bel⟩

set_option maxHeartbeats 4000000 in
set_option maxRecDepth 20000 in
theorem p16 (l : List InA) (A : Option Addr) (c : Nat) (w : World) (hn : l.length ≤ 5000) (hr : Rd w A (insc l)) (hl : Lr w l) : Calls Tryz.prog 16 #[.slice A l.length c] w (fun e w' => ∃ v : Value, e = .returned (.tuple #[v, .int .i64 (allE (l.map (·.1)))]) ∧ w'.ownsRow w.heap.size 42 2 v (nKeys (allE (l.map (·.1))) (useA (l.map (·.1)) [])).length ((nKeys (allE (l.map (·.1))) (useA (l.map (·.1)) [])).flatMap (needC hNow (useA (l.map (·.1)) []))) ∧ Below w.heap.size w w') := by
  refine enter Tryz.func16 (by kernel_rfl) ?_ (by kernel_rfl)
  intro q0 h0
  replace h0 := h0.conv (l' := [(0, .slice A l.length c)]) rfl
  have hB := Bx.refl w
  refine kS ?_
  refine rp 2 ?_
  refine b0 (.C 0 2 <| .C 1 3 <| .nil) [(3, .int .i64 0), (2, .slice none 0 0), (0, .slice A l.length c)] h0 (Kw.nil hB) fun q1 h2 => ?_
  clear h0
  refine wpO_end ?_
  refine then_n ?_
  refine kS ?_
  refine rp 6 ?_
  refine b0 (.C 0 4 <| .nil) [(4, .slice A l.length c), (3, .int .i64 0), (2, .slice none 0 0)] h2 (Kw.nil hB) fun q3 h4 => ?_
  clear h2
  refine sC 1 5 h4 gok_none (p36_38 l A c w hn (hr.below hB.bel) (hl.below hB.bel)) ?_
  rintro _ w10 ⟨v7, rfl, ho8, hb11⟩
  have ho9 := own_base ho8 hB.bel.size
  have hB12 := hB.call hb11
  refine ⟨_, rfl, trivial, fun q5 h6 => ?_⟩
  clear h4 hB hb11
  refine b0 (.E 2 6 v7 <| .E 3 7 (.int .i64 (allE (l.map (·.1)))) <| .C 4 2 <| .C 5 3 <| .nil) [(3, .int .i64 (allE (l.map (·.1)))), (2, v7)] h6 (Kw.nil hB12) fun q13 h14 => ?_
  clear h6
  refine wpO_end ?_
  refine then_n ?_
  refine c_ret (by kernel_rfl) ?_
  refine ret2 (t := 2) (u := 3) (v := v7) (v' := .int .i64 (allE (l.map (·.1)))) h14 (by kernel_rfl) (by kernel_rfl) (by kernel_rfl) ?_
  exact ⟨v7, rfl, ho9, hB12.bel⟩

end Go.Proofs.YtljegdokbifoiaaGreatDoor.Af
