/- One pair for each route of a map. At most 10000 entries. Pairs of a list of payments. At most 5000. -/
import Derived.Test.YtljegdokbifoiaaGreatDoorZzKr
import Derived.Test.YtljegdokbifoiaaGreatDoorZzPk
namespace Go.Proofs.YtljegdokbifoiaaGreatDoor.Af
open Go.RowKit
set_option maxHeartbeats 4000000 in
set_option maxRecDepth 20000 in
theorem p71 (b : Nat) (w : World) : Calls Tryz.prog 71 #[.map (some b)] w (fun e w' => ∃ Bm : Nat, e = .returned (.func (.func 96) #[] #[.pointer (some ⟨Bm, 0, none⟩)]) ∧ Bm < w'.heap.size ∧ w'.cell? ⟨Bm, 0, none⟩ = some (.map (some b)) ∧ Below w.heap.size w w') := by
  refine enter Tryz.func71 (by kernel_rfl) ?_ (by kernel_rfl)
  intro q0 h0
  replace h0 := h0.conv (l' := [(0, .map (some b))]) rfl
  have hB := Bx.refl w
  refine kS ?_
  refine rp 2 ?_
  refine sA 0 1 (fun b => .pointer (some ⟨b, 0, none⟩)) (.cells #[.map (some b)] 106 (0, 0)) h0 gok_none hB (fun _ _ hq => trivial) (fun b3 w4 hB5 hN q1 h2 => ?_)
  clear h0 hB hN
  refine b0 (.C 1 2 <| .nil) [(2, .nilFunc), (1, .pointer (some ⟨b3, 0, none⟩))] h2 (Kw.nil hB5) fun q6 h7 => ?_
  clear h2
  refine wpO_end ?_
  refine then_n ?_
  refine kS ?_
  refine rp 2 ?_
  refine b0 (.E 0 3 (.func (.func 96) #[] #[.pointer (some ⟨b3, 0, none⟩)]) <| .C 1 2 <| .nil) [(2, .func (.func 96) #[] #[.pointer (some ⟨b3, 0, none⟩)])] h7 (Kw.nil hB5) fun q8 h9 => ?_
  clear h7
  refine wpO_end ?_
  refine then_n ?_
  refine c_ret (by kernel_rfl) ?_
  refine ret1 (t := 2) (v := .func (.func 96) #[] #[.pointer (some ⟨b3, 0, none⟩)]) h9 (by kernel_rfl) (by kernel_rfl) ?_
  have hE := El.of_blk (hB5.at 0 rfl)
  exact ⟨_, rfl, hE.1, hE.2 0 _ rfl, hB5.bel⟩

set_option maxHeartbeats 4000000 in
set_option maxRecDepth 20000 in
theorem p94 (Bm : Nat) (b : Nat) (es : Array MapEntry) (clk : Nat) (M : List (Rt × Int)) (w : World) (hn : M.length ≤ 10000) (hBm : Bm < w.heap.size) (hm : w.cell? ⟨Bm, 0, none⟩ = some (.map (some b))) (hb : w.heap[b]? = some (.map es clk)) (hM : MapT Tryz.prog 108 eR eN es clk M) : Calls Tryz.prog 94 #[.func (.func 96) #[] #[.pointer (some ⟨Bm, 0, none⟩)]] w (fun e w' => ∃ (v : Value) (ks : List Rt), e = .returned v ∧ ks.Perm (M.map (·.1)) ∧ w'.ownsRow w.heap.size 108 2 v ks.length (rtsc ks) ∧ Below w.heap.size w w') := by
  refine enter Tryz.func94 (by kernel_rfl) ?_ (by kernel_rfl)
  intro q0 h0
  replace h0 := h0.conv (l' := [(0, .func (.func 96) #[] #[.pointer (some ⟨Bm, 0, none⟩)])]) rfl
  have hB := Bx.refl w
  refine kS ?_
  refine rp 1 ?_
  refine b0 (.C 0 2 <| .nil) [(2, .slice none 0 0), (0, .func (.func 96) #[] #[.pointer (some ⟨Bm, 0, none⟩)])] h0 (Kw.nil hB) fun q1 h2 => ?_
  clear h0
  refine wpO_end ?_
  refine then_n ?_
  refine kS ?_
  refine rp 3 ?_
  refine b0 (.C 0 3 <| .nil) [(3, .func (.func 96) #[] #[.pointer (some ⟨Bm, 0, none⟩)]), (2, .slice none 0 0)] h2 (Kw.nil hB) fun q3 h4 => ?_
  clear h2
  refine sC 1 4 h4 gok_none (app110 M Bm b es clk w hn (Nat.lt_of_lt_of_le hBm hB.bel.size) ((hB.bel.cell (p := ⟨Bm, 0, none⟩) hBm).trans hm) ((hB.bel.block _ (blk_size hb)).trans hb) hM) ?_
  rintro _ w12 ⟨v7, ks8, rfl, hp11, ho9, hb13⟩
  have ho10 := own_base ho9 hB.bel.size
  have hB14 := hB.call hb13
  refine ⟨_, rfl, trivial, fun q5 h6 => ?_⟩
  clear h4 hB hb13
  refine b0 (.C 2 2 <| .nil) [(2, v7)] h6 (Kw.nil hB14) fun q15 h16 => ?_
  clear h6
  refine wpO_end ?_
  refine then_n ?_
  refine c_ret (by kernel_rfl) ?_
  refine ret1 (t := 2) (v := v7) h16 (by kernel_rfl) (by kernel_rfl) ?_
  exact ⟨_, ks8, rfl, hp11, ho10, hB14.bel⟩

set_option maxHeartbeats 4000000 in
set_option maxRecDepth 20000 in
theorem p70 (Bm : Nat) (b : Nat) (es : Array MapEntry) (clk : Nat) (M : List (Rt × Int)) (w : World) (hn : M.length ≤ 10000) (hBm : Bm < w.heap.size) (hm : w.cell? ⟨Bm, 0, none⟩ = some (.map (some b))) (hb : w.heap[b]? = some (.map es clk)) (hM : MapT Tryz.prog 108 eR eN es clk M) : Calls Tryz.prog 70 #[.func (.func 96) #[] #[.pointer (some ⟨Bm, 0, none⟩)], .func (.func 46) #[] #[]] w (fun e w' => ∃ (A : Option Addr) (c : Nat), e = .returned (.slice A (keysR M).length c) ∧ w'.ownsRow w.heap.size 108 2 (.slice A (keysR M).length c) (keysR M).length (rtsc (keysR M)) ∧ Below w.heap.size w w') := by
  refine enter Tryz.func70 (by kernel_rfl) ?_ (by kernel_rfl)
  intro q0 h0
  replace h0 := h0.conv (l' := [(0, .func (.func 96) #[] #[.pointer (some ⟨Bm, 0, none⟩)]), (1, .func (.func 46) #[] #[])]) rfl
  have hB := Bx.refl w
  refine kS ?_
  refine rp 1 ?_
  refine b0 (.C 0 4 <| .nil) [(4, .slice none 0 0), (0, .func (.func 96) #[] #[.pointer (some ⟨Bm, 0, none⟩)]), (1, .func (.func 46) #[] #[])] h0 (Kw.nil hB) fun q1 h2 => ?_
  clear h0
  refine wpO_end ?_
  refine then_n ?_
  refine kS ?_
  refine rp 3 ?_
  refine b0 (.C 0 6 <| .nil) [(6, .func (.func 96) #[] #[.pointer (some ⟨Bm, 0, none⟩)]), (4, .slice none 0 0), (1, .func (.func 46) #[] #[])] h2 (Kw.nil hB) fun q3 h4 => ?_
  clear h2
  refine sC 1 7 h4 gok_none (p94 Bm b es clk M w hn (Nat.lt_of_lt_of_le hBm hB.bel.size) ((hB.bel.cell (p := ⟨Bm, 0, none⟩) hBm).trans hm) ((hB.bel.block _ (blk_size hb)).trans hb) hM) ?_
  rintro _ w14 ⟨v7, ks8, rfl, hp11, ho9, hb15⟩
  have ho10 := own_base ho9 hB.bel.size
  obtain ⟨A12, cp13, rfl, -, -⟩ := own_rd ho10
  have hkl : ks8.length ≤ 10000 := by rw [hp11.length_eq, List.length_map]; exact hn
  have hB16 := hB.call hb15
  refine ⟨_, rfl, trivial, fun q5 h6 => ?_⟩
  clear h4 hB hb15
  refine b0 (.C 2 5 <| .nil) [(5, .slice A12 ks8.length cp13), (4, .slice none 0 0), (1, .func (.func 46) #[] #[])] h6 (Kw.nil hB16) fun q17 h18 => ?_
  clear h6
  refine wpO_end ?_
  refine then_n ?_
  refine kS ?_
  refine rp 3 ?_
  refine b0 (.C 0 8 <| .C 1 9 <| .nil) [(9, .func (.func 46) #[] #[]), (8, .slice A12 ks8.length cp13), (5, .slice A12 ks8.length cp13), (4, .slice none 0 0)] h18 (Kw.nil hB16) fun q19 h20 => ?_
  clear h18
  refine sC 2 10 h20 gok_none (c95 ks8 A12 cp13 _ w14 hkl ho10) ?_
  rintro _ w23 ⟨rfl, ho26, hb24⟩
  have hB25 := hB16.grown ho10 hb24 (Nat.le_refl _) (by kernel_rfl)
  refine ⟨_, rfl, trivial, fun q21 h22 => ?_⟩
  clear h20 hB16 hb24
  refine wpO_end ?_
  have h27 := h22.keep [(5, .slice A12 ks8.length cp13), (4, .slice none 0 0)] ⟨rfl, rfl, trivial⟩
  clear h22
  refine then_n ?_
  refine kS ?_
  refine rp 2 ?_
  refine b0 (.C 0 11 <| .C 1 4 <| .nil) [(4, .slice A12 ks8.length cp13)] h27 (Kw.nil hB25) fun q28 h29 => ?_
  clear h27
  refine wpO_end ?_
  refine then_n ?_
  refine c_ret (by kernel_rfl) ?_
  refine ret1 (t := 4) (v := .slice A12 ks8.length cp13) h29 (by kernel_rfl) (by kernel_rfl) ?_
  have e1 : ks8.length = (keysR M).length := by rw [keysR_len, hp11.length_eq, List.length_map]
  have e2 := keysR_of hp11
  refine ⟨A12, cp13, ?_, ?_, hB25.bel⟩
  · rw [← e1]
  · rw [← e1, ← e2]; exact ho26

set_option maxHeartbeats 4000000 in
set_option maxRecDepth 20000 in
theorem p47 (r : Rt) (n : Int) (w : World) : Calls Tryz.prog 47 #[.agg #[.string r.1, .string r.2], .int .i64 n] w fun e w' => e = .returned (pairV r n) ∧ Below w.heap.size w w' := by
  refine enter Tryz.func47 (by kernel_rfl) ?_ (by kernel_rfl)
  intro q0 h0
  replace h0 := h0.conv (l' := [(0, .agg #[.string r.1, .string r.2]), (1, .int .i64 n)]) rfl
  have hB := Bx.refl w
  refine kS ?_
  refine rp 2 ?_
  refine sA 0 2 (fun b => .pointer (some ⟨b, 0, none⟩)) (.cells #[.string r.1, .string r.2] 108 (0, 0)) h0 gok_none hB (fun _ _ hq => trivial) (fun b3 w4 hB5 hN q1 h2 => ?_)
  clear h0 hB hN
  refine sA 1 4 (fun b => .pointer (some ⟨b, 0, none⟩)) (.cells #[.string (⟨#[]⟩ : ByteArray), .string (⟨#[]⟩ : ByteArray), .int .i64 0] 46 (0, 0)) h2 gok_none hB5 (fun _ _ hq => trivial) (fun b8 w9 hB10 hN q6 h7 => ?_)
  clear h2 hB5 hN
  refine wpO_end ?_
  have h11 := h7.keep [(4, .pointer (some ⟨b8, 0, none⟩)), (2, .pointer (some ⟨b3, 0, none⟩)), (1, .int .i64 n)] ⟨rfl, rfl, rfl, trivial⟩
  clear h7
  refine then_n ?_
  refine kS ?_
  refine rp 7 ?_
  refine b0 (.C 0 5 <| .L 1 6 1 0 <| .C 2 7 <| .L 3 8 1 1 <| .C 4 9 <| .E 5 10 (.agg #[.string r.1, .string r.2, .int .i64 n]) <| .nil) [(10, .agg #[.string r.1, .string r.2, .int .i64 n]), (4, .pointer (some ⟨b8, 0, none⟩))] h11 (Kw.nil hB10) fun q12 h13 => ?_
  clear h11
  refine sW 6 0 0 [(b8, .cells #[.string r.1, .string r.2, .int .i64 n] 46 (0, 0)), (b3, .cells #[.string r.1, .string r.2] 108 (0, 0))] h13 gok_none hB10 (.inr fun _ _ => trivial) (fun w16 hB17 hT q14 h15 => ?_)
  clear h13 hB10
  clear hT
  refine wpO_end ?_
  have h18 := h15.keep [(4, .pointer (some ⟨b8, 0, none⟩))] ⟨rfl, trivial⟩
  clear h15
  refine then_n ?_
  refine c_ret (by kernel_rfl) ?_
  refine retC (t := 4) (T := 46) (b := b8) (vs := [.string r.1, .string r.2, .int .i64 n]) h18 (by kernel_rfl) (by kernel_rfl) hB17 0 (by kernel_rfl) (by kernel_rfl) (by kernel_rfl) ?_
  exact ⟨ret_eq (rfl), hB17.bel⟩

set_option maxHeartbeats 4000000 in
set_option maxRecDepth 20000 in
theorem p45 (b : Nat) (es : Array MapEntry) (clk : Nat) (M : List (Rt × Int)) (w : World) (hn : M.length ≤ 10000) (hkeys : ∀ s ∈ M.map (·.1), s.1.size ≤ 8 ∧ s.2.size ≤ 8) (hb : w.heap[b]? = some (.map es clk)) (hM : MapT Tryz.prog 108 eR eN es clk M) : Calls Tryz.prog 45 #[.map (some b), .func (.func 46) #[] #[], .func (.func 47) #[] #[]] w (fun e w' => ∃ v : Value, e = .returned v ∧ w'.ownsRow w.heap.size 46 3 v (keysR M).length ((keysR M).flatMap (pairC M)) ∧ Below w.heap.size w w') := by
  refine enter Tryz.func45 (by kernel_rfl) ?_ (by kernel_rfl)
  intro q0 h0
  replace h0 := h0.conv (l' := [(0, .map (some b)), (1, .func (.func 46) #[] #[]), (2, .func (.func 47) #[] #[])]) rfl
  have hB := Bx.refl w
  refine kS ?_
  refine rp 1 ?_
  refine b0 (.C 0 6 <| .nil) [(6, .slice none 0 0), (0, .map (some b)), (1, .func (.func 46) #[] #[]), (2, .func (.func 47) #[] #[])] h0 (Kw.nil hB) fun q1 h2 => ?_
  clear h0
  refine wpO_end ?_
  refine then_n ?_
  refine kS ?_
  refine rp 1 ?_
  refine b0 (.C 0 7 <| .nil) [(7, .slice none 0 0), (6, .slice none 0 0), (0, .map (some b)), (1, .func (.func 46) #[] #[]), (2, .func (.func 47) #[] #[])] h2 (Kw.nil hB) fun q3 h4 => ?_
  clear h2
  refine wpO_end ?_
  refine then_n ?_
  refine kS ?_
  refine kS ?_
  refine rp 6 ?_
  refine b0 (.C 0 10 <| .nil) [(10, .map (some b)), (7, .slice none 0 0), (6, .slice none 0 0), (0, .map (some b)), (1, .func (.func 46) #[] #[]), (2, .func (.func 47) #[] #[])] h4 (Kw.nil hB) fun q5 h6 => ?_
  clear h4
  refine sC 1 11 h6 gok_none (p71 b w) ?_
  rintro _ w12 ⟨b9, rfl, hl11, hm10, hb13⟩
  have hB14 := hB.call hb13
  refine ⟨_, rfl, trivial, fun q7 h8 => ?_⟩
  clear h6 hB hb13
  refine b0 (.C 2 12 <| .nil) [(12, .func (.func 46) #[] #[]), (11, .func (.func 96) #[] #[.pointer (some ⟨b9, 0, none⟩)]), (7, .slice none 0 0), (6, .slice none 0 0), (0, .map (some b)), (2, .func (.func 47) #[] #[])] h8 (Kw.nil hB14) fun q15 h16 => ?_
  clear h8
  refine sC 3 13 h16 gok_none (p70 b9 b es clk M w12 hn hl11 hm10 ((hB14.bel.block _ (blk_size hb)).trans hb) hM) ?_
  rintro _ w22 ⟨A19, cp20, rfl, ho21, hb23⟩
  have hrk := own_rd' ho21
  have hB24 := hB14.call hb23
  refine ⟨_, rfl, trivial, fun q17 h18 => ?_⟩
  clear h16 hB14 hb23
  have hbl25 := hB24.bel
  have hB26 := Bx.refl w22
  clear hB24
  have hbW := (hbl25.block _ (blk_size hb)).trans hb
  have hkl : (keysR M).length ≤ 10000 := by rw [keysR_len]; exact hn
  refine b0 (.E 4 14 (.int .i64 (((keysR M).length : Nat) : Int)) <| .C 5 15 <| .nil) [(15, .int .i64 0), (14, .int .i64 (((keysR M).length : Nat) : Int)), (13, .slice A19 ((keysR M).length) cp20), (7, .slice none 0 0), (6, .slice none 0 0), (0, .map (some b)), (2, .func (.func 47) #[] #[])] h18 (Kw.nil hB26) fun q27 h28 => ?_
  clear h18
  refine wpO_end ?_
  refine then_n ?_
  refine c_block 0 (by kernel_rfl) ?_
  refine c_loop (by kernel_rfl) (fun qa qw => ∃ k : Nat, ∃ (v : Value), (k ≤ (keysR M).length) ∧ Fr 30 [(13, .slice A19 ((keysR M).length) cp20), (14, .int .i64 (((keysR M).length : Nat) : Int)), (15, .int .i64 ((k : Nat) : Int)), (7, v), (0, .map (some b)), (2, .func (.func 47) #[] #[])] qa ∧ Bx w22 [] qw ∧ (qw.ownsRow w22.heap.size 46 3 v k (((keysR M).take k).flatMap (pairC M)))) (fun qa _ => ((((keysR M).length : Int)) - intAt qa 15).toNat) ⟨0, .slice none 0 0, Nat.zero_le _, h28.keep _ ⟨rfl, rfl, rfl, rfl, rfl, rfl, trivial⟩, hB26, own_nil _ _ _ _⟩ ?_
  rintro q29 w30 ⟨k, v, hk33, h31, hB32, hx35⟩
  have hm34 := h31.int (k := 15) (kd := .i64) (z := ((k : Nat) : Int)) rfl
  clear h28 hB26
  refine kS ?_
  refine rp 1 ?_
  refine b0 (.E 0 16 (.bool (decide (((k : Nat) : Int) < (((keysR M).length : Nat) : Int)))) <| .nil) [(16, .bool (decide (((k : Nat) : Int) < (((keysR M).length : Nat) : Int)))), (13, .slice A19 ((keysR M).length) cp20), (14, .int .i64 (((keysR M).length : Nat) : Int)), (15, .int .i64 ((k : Nat) : Int)), (7, v), (0, .map (some b)), (2, .func (.func 47) #[] #[])] h31 (Kw.nil hB32) fun q36 h37 => ?_
  clear h31
  refine wpO_end ?_
  refine then_n ?_
  refine kS ?_
  refine kC 16 (decide (((k : Nat) : Int) < (((keysR M).length : Nat) : Int))) h37 (fun hc38 => ?_) (fun hc38 => ?_)
  ·
    have hp39 : (((k : Nat) : Int) < (((keysR M).length : Nat) : Int)) := of_decide_eq_true hc38
    have hltx : k < (keysR M).length := by omega
    obtain ⟨x, hx⟩ : ∃ x, (keysR M)[k]? = some x := ⟨(keysR M)[k], List.getElem?_eq_getElem hltx⟩
    obtain ⟨ad, hA_, hE0⟩ := hrk.el (k * 2) (rtC x) (by simp [rtC]) (rtsc_el hx)
    subst hA_
    have hkx := hkeys x (keysR_mem (List.mem_of_getElem? hx))
    refine c_skip (by kernel_rfl) ?_
    refine then_n ?_
    refine kS ?_
    refine c_block 1 (by kernel_rfl) ?_
    refine kS ?_
    refine rp 4 ?_
    refine eE 0 17 (.indexAddr 141 (.tmp 13) (.tmp 15)) 0 (.pointer (some ((ad.add (k * 2)).add 0))) h37 (hr := r_index0 (n := (keysR M).length) (c := cp20) (kd := .i64) (by kernel_rfl) (by kernel_rfl) hltx (by kernel_rfl)) fun q40 h41 => ?_
    clear h37
    refine b0 (.Y 1 18 0 0 2 <| .nil) [(18, .agg #[.string x.1, .string x.2]), (16, .bool (decide (((k : Nat) : Int) < (((keysR M).length : Nat) : Int)))), (13, .slice (some ad) ((keysR M).length) cp20), (14, .int .i64 (((keysR M).length : Nat) : Int)), (15, .int .i64 ((k : Nat) : Int)), (7, v), (0, .map (some b)), (2, .func (.func 47) #[] #[])] h41 ((Kw.nil hB32).cons (hE0.below hB32.bel)) fun q42 h43 => ?_
    clear h41
    refine sA 2 9 (fun b => .pointer (some ⟨b, 0, none⟩)) (.cells #[.string (⟨#[]⟩ : ByteArray), .string (⟨#[]⟩ : ByteArray)] 108 (0, 0)) h43 gok_none hB32 (fun _ _ hq => trivial) (fun b46 w47 hB48 hN q44 h45 => ?_)
    have ho49 := own_below hx35 hN
    clear h43 hB32 hN
    refine sW 3 0 0 [(b46, .cells #[.string x.1, .string x.2] 108 (0, 0))] h45 gok_none hB48 (.inr fun _ _ => trivial) (fun w52 hB53 hT q50 h51 => ?_)
    clear h45 hB48
    have ho54 := own_turned ho49 hT (by kernel_rfl)
    clear hT
    refine wpO_end ?_
    have h55 := h51.keep [(9, .pointer (some ⟨b46, 0, none⟩)), (16, .bool (decide (((k : Nat) : Int) < (((keysR M).length : Nat) : Int)))), (13, .slice (some ad) ((keysR M).length) cp20), (14, .int .i64 (((keysR M).length : Nat) : Int)), (15, .int .i64 ((k : Nat) : Int)), (7, v), (0, .map (some b)), (2, .func (.func 47) #[] #[])] ⟨rfl, rfl, rfl, rfl, rfl, rfl, rfl, rfl, trivial⟩
    clear h51
    refine then_n ?_
    have hD56 := hB53.drew
    refine rd (Bx w22 [(b46, .cells #[.string x.1, .string x.2] 108 (0, 0))]) 10 [⟨0, true, 0, 128, 524288⟩, ⟨1, true, 0, 4, 1048576⟩, ⟨2, true, 0, 512, 2097152⟩, ⟨3, true, 0, 1, 4194304⟩, ⟨4, true, 0, 512, 8388608⟩, ⟨5, true, 24, 12582912, 16777216⟩, ⟨6, false, 38, 19922944, 33554432⟩, ⟨7, false, 64, 33554432, 67108864⟩, ⟨8, false, 193, 67633152, 134217728⟩, ⟨9, true, 511, 134217728, 128⟩] hD56 ?_
    have ho57 := own_drew ho54
    generalize World.drew w52 = w58 at hD56 ho57 ⊢
    refine d0 (.C 0 19 <| .C 1 20 <| .S 2 21 0 0 2 <| .C 3 22 <| .S 4 23 0 0 2 <| .nil) [(23, .agg #[.string x.1, .string x.2]), (22, .map (some b)), (21, .agg #[.string x.1, .string x.2]), (20, .func (.func 47) #[] #[]), (19, v), (9, .pointer (some ⟨b46, 0, none⟩)), (16, .bool (decide (((k : Nat) : Int) < (((keysR M).length : Nat) : Int)))), (13, .slice (some ad) ((keysR M).length) cp20), (14, .int .i64 (((keysR M).length : Nat) : Int)), (15, .int .i64 ((k : Nat) : Int)), (7, v), (0, .map (some b)), (2, .func (.func 47) #[] #[])] h55 (fun _ hS => Kw.nil hS) fun q59 h60 => ?_
    clear h55
    refine fE 5 24 (.lookup 106 (.tmp 22) (.tmp 23) false) 2 (.int .i64 (lkD M (x.1, x.2) 0)) h60 (hr := fun _ hS => r_lookupH (k := (x.1, x.2)) (d := 0) ((hS.bel.block _ (blk_size hbW)).trans hbW) hM Krt eR_inj (hk_rt hkx.1 hkx.2) (by kernel_rfl) Tryz.zeroValue2 rfl rfl) fun q61 h62 => ?_
    clear h60
    refine sC 6 25 h62 gok_none (p47 (x.1, x.2) (lkD M (x.1, x.2) 0) w58) ?_
    rintro _ w65 ⟨rfl, hb66⟩
    have hB67 := hD56.call hb66
    have ho68 := own_below ho57 hb66
    refine ⟨_, rfl, hB67, fun q63 h64 => ?_⟩
    clear h62 hD56 hb66
    refine sA 7 26 (fun b => .slice (some ⟨b, 0, none⟩) 1 1) (.cells #[.string x.1, .string x.2, .int .i64 (lkD M (x.1, x.2) 0)] 46 (0, 0)) h64 gok_none hB67 (fun _ _ hq => hq.tail) (fun b71 w72 hB73 hN q69 h70 => ?_)
    have ho74 := own_below ho68 hN
    clear h64 hB67 hN
    have hr83 := Rd.of_blk (hB73.at 0 rfl)
    refine stApp (x := Operand.tmp 19) (y := Operand.tmp 26) (i := 8) (d := 27) (t := 38) (e := 46) (size := 3) (bytes := 40) (base := w22.heap.size) (nn := k) (m := 1) (c := 1) (ty := 38) (g := none) (v := v) (xs := (((keysR M).take k).flatMap (pairC M))) (news := [.string x.1, .string x.2, .int .i64 (lkD M (x.1, x.2) 0)]) (ad := ⟨b71, 0, none⟩) h70 (by kernel_rfl) (by kernel_rfl) (by kernel_rfl) gok_none (by kernel_rfl) (by decide) (by kernel_rfl) (by kernel_rfl) ho74 (by kernel_rfl) (fun j u hj => by obtain ⟨ad', e1, -, h1⟩ := hr83 j u hj; cases e1; exact h1) (by intro u hu; revert u hu; simp only [List.forall_mem_cons]; exact ⟨rfl, rfl, rfl, fun _ h => absurd h (by simp)⟩) (by first | (unfold maxLen; omega) | omega) (by first | (unfold maxLen; omega) | omega) hB73.tail hB73.bel.size (Nat.le_refl _) (by kernel_rfl) (fun _ hq => hq) (fun v77 w78 ho79 hg80 hB81 hz82 q75 h76 => ?_)
    clear h70 hB73 hr83
    refine d0 (.C 9 7 <| .nil) [(7, v77), (9, .pointer (some ⟨b46, 0, none⟩)), (16, .bool (decide (((k : Nat) : Int) < (((keysR M).length : Nat) : Int)))), (13, .slice (some ad) ((keysR M).length) cp20), (14, .int .i64 (((keysR M).length : Nat) : Int)), (15, .int .i64 ((k : Nat) : Int)), (0, .map (some b)), (2, .func (.func 47) #[] #[])] h76 (fun _ hS => Kw.nil hS) fun q84 h85 => ?_
    clear h76
    refine wpO_end ?_
    refine inB_n ?_
    refine then_n ?_
    refine rp 2 ?_
    refine b0 (.E 0 28 (.int .i64 (IntKind.i64.wrap (((k : Nat) : Int) + 1))) <| .C 1 15 <| .nil) [(15, .int .i64 (IntKind.i64.wrap (((k : Nat) : Int) + 1))), (7, v77), (9, .pointer (some ⟨b46, 0, none⟩)), (16, .bool (decide (((k : Nat) : Int) < (((keysR M).length : Nat) : Int)))), (13, .slice (some ad) ((keysR M).length) cp20), (14, .int .i64 (((keysR M).length : Nat) : Int)), (0, .map (some b)), (2, .func (.func 47) #[] #[])] h85 (Kw.nil hB81) fun q86 h87 => ?_
    clear h85
    refine wpO_end ?_
    have h88 := h87.keep [(13, .slice (some ad) ((keysR M).length) cp20), (14, .int .i64 (((keysR M).length : Nat) : Int)), (15, .int .i64 (((k + 1) : Nat) : Int)), (7, v77), (0, .map (some b)), (2, .func (.func 47) #[] #[])] ⟨rfl, rfl, look_int rfl (wrap_succ (by omega)), rfl, rfl, rfl, trivial⟩
    have hm89 := h88.int (k := 15) (kd := .i64) (z := (((k + 1) : Nat) : Int)) rfl
    refine then_n ⟨⟨k + 1, v77, by omega, h88, hB81.tail, (take_flat (pairC M) hx).symm ▸ ho79⟩, ?_⟩
    show ((((keysR M).length : Int)) - intAt _ 15).toNat < ((((keysR M).length : Int)) - intAt _ 15).toNat
    rw [hm34, hm89]; omega
  have hp90 : ¬ (((k : Nat) : Int) < (((keysR M).length : Nat) : Int)) := of_decide_eq_false hc38
  refine c_exit 0 (by kernel_rfl) ?_
  refine then_e (then_e (inB_hit ?_))
  refine then_n ?_
  refine kS ?_
  refine rp 2 ?_
  refine b0 (.C 0 29 <| .C 1 6 <| .nil) [(6, v)] h37 (Kw.nil hB32) fun q91 h92 => ?_
  clear h37
  refine wpO_end ?_
  refine then_n ?_
  refine c_ret (by kernel_rfl) ?_
  refine ret1 (t := 6) (v := v) h92 (by kernel_rfl) (by kernel_rfl) ?_
  have hkk : k = (keysR M).length := by omega
  subst hkk
  exact ⟨_, rfl, by have := own_base hx35 hbl25.size; rwa [List.take_length] at this, (hbl25.trans (hB32.bel.mono hbl25.size))⟩

end Go.Proofs.YtljegdokbifoiaaGreatDoor.Af

namespace Go.Proofs.YtljegdokbifoiaaGreatDoor.Af
open Go.RowKit
set_option maxHeartbeats 4000000 in
set_option maxRecDepth 20000 in
theorem p18 (l : List InA) (A : Option Addr) (c : Nat) (w : World) (hn : l.length ≤ 5000) (hr : Rd w A (insc l)) (hl : Lr w l) : Calls Tryz.prog 18 #[.slice A l.length c] w (fun e w' => ∃ v : Value, e = .returned (.tuple #[v, .int .i64 (allE (l.map (·.1)))]) ∧ w'.ownsRow w.heap.size 46 3 v (nKeysR (allE (l.map (·.1))) (posN (netA (l.map (·.1)) []))).length ((nKeysR (allE (l.map (·.1))) (posN (netA (l.map (·.1)) []))).flatMap (pairC (posN (netA (l.map (·.1)) [])))) ∧ Below w.heap.size w w') := by
  refine enter Tryz.func18 (by kernel_rfl) ?_ (by kernel_rfl)
  intro q0 h0
  replace h0 := h0.conv (l' := [(0, .slice A l.length c)]) rfl
  have hB := Bx.refl w
  refine kS ?_
  refine rp 2 ?_
  refine b0 (.C 0 2 <| .C 1 3 <| .nil) [(3, .int .i64 0), (2, .slice none 0 0), (0, .slice A l.length c)] h0 (Kw.nil hB) fun q1 h2 => ?_
  clear h0
  refine wpO_end ?_
  refine then_n ?_
  refine kS ?_
  refine kS ?_
  refine rp 3 ?_
  refine b0 (.C 0 8 <| .nil) [(8, .slice A l.length c), (3, .int .i64 0), (2, .slice none 0 0), (0, .slice A l.length c)] h2 (Kw.nil hB) fun q3 h4 => ?_
  clear h2
  refine sC 1 9 h4 gok_none (p39 l A c w hn (hr.below hB.bel) (hl.below hB.bel)) ?_
  rintro _ w7 ⟨rfl, hb8⟩
  have hB9 := hB.call hb8
  refine ⟨_, rfl, trivial, fun q5 h6 => ?_⟩
  clear h4 hB hb8
  refine b0 (.C 2 4 <| .nil) [(4, .int .i64 (allE (l.map (·.1)))), (3, .int .i64 0), (2, .slice none 0 0), (0, .slice A l.length c)] h6 (Kw.nil hB9) fun q10 h11 => ?_
  clear h6
  refine wpO_end ?_
  refine then_n ?_
  refine kS ?_
  refine rp 2 ?_
  refine b0 (.C 0 10 <| .E 1 11 (.bool (allE (l.map (·.1)) != (0 : Int))) <| .nil) [(11, .bool (allE (l.map (·.1)) != (0 : Int))), (4, .int .i64 (allE (l.map (·.1)))), (3, .int .i64 0), (2, .slice none 0 0), (0, .slice A l.length c)] h11 (Kw.nil hB9) fun q12 h13 => ?_
  clear h11
  refine wpO_end ?_
  refine then_n ?_
  refine kC 11 (allE (l.map (·.1)) != (0 : Int)) h13 (fun hc14 => ?_) (fun hc14 => ?_)
  ·
    refine kS ?_
    refine rp 3 ?_
    refine b0 (.C 0 12 <| .C 1 2 <| .C 2 3 <| .nil) [(3, .int .i64 (allE (l.map (·.1)))), (2, .slice none 0 0), (0, .slice A l.length c)] h13 (Kw.nil hB9) fun q15 h16 => ?_
    clear h13
    refine wpO_end ?_
    refine then_n ?_
    refine c_ret (by kernel_rfl) ?_
    refine then_r ?_
    refine ret2 (t := 2) (u := 3) (v := .slice none 0 0) (v' := .int .i64 (allE (l.map (·.1)))) h16 (by kernel_rfl) (by kernel_rfl) (by kernel_rfl) ?_
    refine ⟨_, rfl, ?_, hB9.bel⟩
    unfold nKeysR; rw [hc14]; exact own_nil _ _ _ _
  have hok := all_ok (l := l.map (·.1)) (by simpa using hc14)
  refine c_skip (by kernel_rfl) ?_
  refine then_n ?_
  refine kS ?_
  refine rp 2 ?_
  refine sA 0 13 (fun b => .map (some b)) (.map #[] 0) h13 gok_none hB9 (fun _ _ hq => trivial) (fun b19 w20 hB21 hN q17 h18 => ?_)
  clear h13 hB9 hN
  refine b0 (.C 1 5 <| .nil) [(5, .map (some b19)), (3, .int .i64 0), (2, .slice none 0 0), (0, .slice A l.length c)] h18 (Kw.nil hB21) fun q22 h23 => ?_
  clear h18
  refine wpO_end ?_
  refine then_n ?_
  refine kS ?_
  refine kS ?_
  refine rp 3 ?_
  refine b0 (.C 0 14 <| .E 1 15 (.int .i64 ((l.length : Nat) : Int)) <| .C 2 16 <| .nil) [(16, .int .i64 0), (15, .int .i64 ((l.length : Nat) : Int)), (14, .slice A l.length c), (5, .map (some b19)), (3, .int .i64 0), (2, .slice none 0 0)] h23 (Kw.nil hB21) fun q24 h25 => ?_
  clear h23
  refine wpO_end ?_
  refine then_n ?_
  refine c_block 0 (by kernel_rfl) ?_
  refine c_loop (by kernel_rfl) (fun qa qw => ∃ k : Nat, ∃ (es : Array MapEntry) (clk : Nat) (M : List (Rt × Int)), (k ≤ l.length) ∧ Fr 49 [(14, .slice A l.length c), (15, .int .i64 ((l.length : Nat) : Int)), (16, .int .i64 ((k : Nat) : Int)), (5, .map (some b19))] qa ∧ Bx w [(b19, .map es clk)] qw ∧ (MapT Tryz.prog 108 eR eN es clk M) ∧ (netA (l.map (·.1)) [] = netA ((l.drop k).map (·.1)) M)) (fun qa _ => (((l.length : Int)) - intAt qa 16).toNat) ⟨0, _, _, [], Nat.zero_le _, h25.keep _ ⟨rfl, rfl, rfl, rfl, trivial⟩, hB21, (MapT.empty : MapT Tryz.prog 108 eR eN #[] 0 []), rfl⟩ ?_
  rintro q26 w27 ⟨k, es, clk, M, hk30, h28, hB29, hx32, hx33⟩
  have hm31 := h28.int (k := 16) (kd := .i64) (z := ((k : Nat) : Int)) rfl
  clear h25 hB21
  refine kS ?_
  refine rp 1 ?_
  refine b0 (.E 0 17 (.bool (decide (((k : Nat) : Int) < ((l.length : Nat) : Int)))) <| .nil) [(17, .bool (decide (((k : Nat) : Int) < ((l.length : Nat) : Int)))), (14, .slice A l.length c), (15, .int .i64 ((l.length : Nat) : Int)), (16, .int .i64 ((k : Nat) : Int)), (5, .map (some b19))] h28 (Kw.nil hB29) fun q34 h35 => ?_
  clear h28
  refine wpO_end ?_
  refine then_n ?_
  refine kS ?_
  refine kC 17 (decide (((k : Nat) : Int) < ((l.length : Nat) : Int))) h35 (fun hc36 => ?_) (fun hc36 => ?_)
  ·
    have hp37 : (((k : Nat) : Int) < ((l.length : Nat) : Int)) := of_decide_eq_true hc36
    have hltx : k < l.length := by omega
    obtain ⟨x, hx⟩ : ∃ x, l[k]? = some x := ⟨l[k], List.getElem?_eq_getElem hltx⟩
    obtain ⟨ad, hA_, hE0⟩ := hr.el (k * 16) (inC x) (by intro h; cases h) (insc_el l k x hx)
    subst hA_
    obtain ⟨hcx, hnx, hrx⟩ := hl x (List.mem_of_getElem? hx)
    have hpx := hok x.1 (List.mem_map.2 ⟨x, List.mem_of_getElem? hx, rfl⟩)
    refine c_skip (by kernel_rfl) ?_
    refine then_n ?_
    refine kS ?_
    refine c_block 1 (by kernel_rfl) ?_
    refine kS ?_
    refine rp 4 ?_
    refine eE 0 18 (.indexAddr 23 (.tmp 14) (.tmp 16)) 0 (.pointer (some ((ad.add (k * 16)).add 0))) h35 (hr := r_index0 (n := l.length) (c := c) (kd := .i64) (by kernel_rfl) (by kernel_rfl) hltx (by kernel_rfl)) fun q38 h39 => ?_
    clear h35
    refine b0 (.Y 1 19 0 0 16 <| .nil) [(19, insV x.1 x.2.1 x.2.2), (17, .bool (decide (((k : Nat) : Int) < ((l.length : Nat) : Int)))), (14, .slice (some ad) l.length c), (15, .int .i64 ((l.length : Nat) : Int)), (16, .int .i64 ((k : Nat) : Int)), (5, .map (some b19))] h39 ((Kw.nil hB29).cons (hE0.below hB29.bel)) fun q40 h41 => ?_
    clear h39
    refine sA 2 7 (fun b => .pointer (some ⟨b, 0, none⟩)) (.cells #[.string (⟨#[]⟩ : ByteArray), .int .i64 0, .string (⟨#[]⟩ : ByteArray), .string (⟨#[]⟩ : ByteArray), .int .i64 0, .string (⟨#[]⟩ : ByteArray), .int .i64 0, .int .i64 0, .int .i64 0, .int .i64 0, .int .i64 0, .bool false, .int .i64 0, .bool false, .bool false, .slice none 0 0] 30 (0, 0)) h41 gok_none hB29 (fun _ _ hq => trivial) (fun b44 w45 hB46 hN q42 h43 => ?_)
    clear h41 hB29 hN
    refine sW 3 0 0 [(b44, .cells (insV x.1 x.2.1 x.2.2).cells 30 (0, 0)), (b19, .map es clk)] h43 gok_none hB46 (.inr fun _ _ => trivial) (fun w49 hB50 hT q47 h48 => ?_)
    clear h43 hB46
    clear hT
    refine wpO_end ?_
    have h51 := h48.keep [(7, .pointer (some ⟨b44, 0, none⟩)), (17, .bool (decide (((k : Nat) : Int) < ((l.length : Nat) : Int)))), (14, .slice (some ad) l.length c), (15, .int .i64 ((l.length : Nat) : Int)), (16, .int .i64 ((k : Nat) : Int)), (5, .map (some b19))] ⟨rfl, rfl, rfl, rfl, rfl, rfl, trivial⟩
    clear h48
    refine then_n ?_
    refine kS ?_
    have hB52 : Bx w [(b19, .map es clk), (b44, .cells (insV x.1 x.2.1 x.2.2).cells 30 (0, 0))] w49 := hB50.sel [1, 0] (by decide) rfl
    clear hB50
    refine c_cut (fun qa qw => ∃ (es88 : Array MapEntry) (clk89 : Nat), Fr 49 [(7, .pointer (some ⟨b44, 0, none⟩)), (17, .bool (decide (((k : Nat) : Int) < ((l.length : Nat) : Int)))), (14, .slice (some ad) l.length c), (15, .int .i64 ((l.length : Nat) : Int)), (16, .int .i64 ((k : Nat) : Int)), (5, .map (some b19))] qa ∧ Bx w [(b19, .map es88 clk89), (b44, .cells (insV x.1 x.2.1 x.2.2).cells 30 (0, 0))] qw ∧ MapT Tryz.prog 108 eR eN es88 clk89 (updK M (x.1.sender, x.1.cpty) (IntKind.i64.wrap ((lkD M (x.1.sender, x.1.cpty) 0) + x.1.amt)))) ?_ ?_
    ·
      have hD94 := hB52.drew
      refine reg_plan (S := Bx w [(b44, .cells (insV x.1 x.2.1 x.2.2).cells 30 (0, 0))]) 13 [⟨0, true, 0, 32, 1048576⟩, ⟨1, true, 0, 128, 2097152⟩, ⟨2, true, 2, 2097152, 4194304⟩, ⟨3, true, 0, 128, 8388608⟩, ⟨4, true, 8, 8388608, 16777216⟩, ⟨5, true, 20, 20971520, 33554432⟩, ⟨6, false, 33, 34603008, 67108864⟩, ⟨7, true, 0, 128, 134217728⟩, ⟨8, true, 128, 134217728, 268435456⟩, ⟨9, true, 320, 335544320, 536870912⟩, ⟨10, false, 447, 34603008, 1073741824⟩, ⟨11, true, 1024, 1073741824, 2147483648⟩, ⟨12, false, 4095, 2685403136, 0⟩] (.free ⟨0, true, 0, 32, 1048576⟩ (.free ⟨1, true, 0, 128, 2097152⟩ (.free ⟨2, true, 2, 2097152, 4194304⟩ (.free ⟨3, true, 0, 128, 8388608⟩ (.free ⟨4, true, 8, 8388608, 16777216⟩ (.free ⟨5, true, 20, 20971520, 33554432⟩ (.free ⟨7, true, 0, 128, 134217728⟩ (.free ⟨8, true, 128, 134217728, 268435456⟩ (.alt ⟨6, false, 33, 34603008, 67108864⟩ (.free ⟨9, true, 320, 335544320, 536870912⟩ (.alt ⟨10, false, 447, 34603008, 1073741824⟩ (.free ⟨11, true, 1024, 1073741824, 2147483648⟩ (.alt ⟨12, false, 4095, 2685403136, 0⟩ (.done) (.none))) (.none))) (.alt ⟨10, false, 447, 34603008, 1073741824⟩ (.free ⟨11, true, 1024, 1073741824, 2147483648⟩ (.alt ⟨6, false, 33, 34603008, 67108864⟩ (.free ⟨9, true, 320, 335544320, 536870912⟩ (.alt ⟨12, false, 4095, 2685403136, 0⟩ (.done) (.none))) (.none))) (.none))))))))))) (by kernel_rfl) (by kernel_rfl) (by kernel_rfl) (fun _ _ _ _ h => absurd h.2 (by simp)) hD94.tail ?_
      generalize World.drew w49 = w95 at hD94 ⊢
      refine p_free ?_
      refine fE 0 20 (.move (.tmp 5)) 106 (.map (some b19)) h51 fun q96 h97 => ?_
      clear h51
      refine wpO_end ?_
      refine cut_n ?_
      refine p_free ?_
      refine fE 1 21 (.fieldAddr 30 (.tmp 7) 2) 0 (.pointer (some ⟨b44, 2, none⟩)) h97 fun q98 h99 => ?_
      clear h97
      refine wpO_end ?_
      refine cut_n ?_
      refine p_free ?_
      refine fE 2 22 (.load 9 (.tmp 21)) 9 (.string x.1.sender) h99 (hr := fun _ hS => r_loadC (b := b44) (v := .string x.1.sender) hS 0 2 (by kernel_rfl) (by kernel_rfl) (by kernel_rfl)) fun q100 h101 => ?_
      clear h99
      refine wpO_end ?_
      refine cut_n ?_
      refine p_free ?_
      refine fE 3 23 (.fieldAddr 30 (.tmp 7) 3) 0 (.pointer (some ⟨b44, 3, none⟩)) h101 fun q102 h103 => ?_
      clear h101
      refine wpO_end ?_
      refine cut_n ?_
      refine p_free ?_
      refine fE 4 24 (.load 9 (.tmp 23)) 9 (.string x.1.cpty) h103 (hr := fun _ hS => r_loadC (b := b44) (v := .string x.1.cpty) hS 0 3 (by kernel_rfl) (by kernel_rfl) (by kernel_rfl)) fun q104 h105 => ?_
      clear h103
      refine wpO_end ?_
      refine cut_n ?_
      refine p_free ?_
      refine fE 5 25 (.build 108 #[(0, .tmp 22), (1, .tmp 24)]) 108 (.agg #[.string x.1.sender, .string x.1.cpty]) h105 fun q106 h107 => ?_
      clear h105
      refine wpO_end ?_
      refine cut_n ?_
      refine p_free ?_
      refine fE 7 27 (.fieldAddr 30 (.tmp 7) 7) 0 (.pointer (some ⟨b44, 7, none⟩)) h107 fun q108 h109 => ?_
      clear h107
      refine wpO_end ?_
      refine cut_n ?_
      refine p_free ?_
      refine fE 8 28 (.load 2 (.tmp 27)) 2 (.int .i64 x.1.amt) h109 (hr := fun _ hS => r_loadC (b := b44) (v := .int .i64 x.1.amt) hS 0 7 (by kernel_rfl) (by kernel_rfl) (by kernel_rfl)) fun q110 h111 => ?_
      clear h109
      refine wpO_end ?_
      refine cut_n ?_
      refine p_alt ?_ ?_
      ·
        refine stE (i := 6) (d := 26) (op := Op.lookup 106 (Operand.tmp 20) (Operand.tmp 25) false) (ty := 2) (g := none) (v := .int .i64 (lkD M (x.1.sender, x.1.cpty) 0)) (w' := w95) h111 (by kernel_rfl) (by kernel_rfl) (by kernel_rfl) gok_none (r_lookup hD94 0 (k := (x.1.sender, x.1.cpty)) (d := 0) rfl hx32 Krt eR_inj (hk_rt (memB_size hpx.snd).1 (memB_size hpx.cpt).1) (by kernel_rfl) Tryz.zeroValue2 rfl rfl) hD94.tail (fun q112 h113 => ?_)
        clear h111
        refine wpO_end ?_
        refine cut_n ?_
        refine p_free ?_
        refine fE 9 29 (.binOp .add 2 (.tmp 26) (.tmp 28) 2) 2 (.int .i64 (IntKind.i64.wrap ((lkD M (x.1.sender, x.1.cpty) 0) + x.1.amt))) h113 fun q114 h115 => ?_
        clear h113
        refine wpO_end ?_
        refine cut_n ?_
        refine p_alt ?_ ?_
        ·
          refine sME (et := 2) (t := 106) (x := (Operand.tmp 20)) (y := (Operand.tmp 25)) (ty := 0) (d := 0) 10 30 0 (k := (x.1.sender, x.1.cpty)) (eV := eN) h115 hD94 rfl hx32 Krt eR_inj (hk_rt (memB_size hpx.snd).1 (memB_size hpx.cpt).1) (by kernel_rfl) Tryz.zeroValue2 (by kernel_rfl) (by kernel_rfl) (by kernel_rfl) rfl rfl (fun _ _ _ hq => hq.tail) (fun es118 clk119 st120 w121 hM122 hB123 hP124 q116 h117 => ?_)
          clear h115 hD94
          replace hB123 : Bx w [(b19, .map es118 clk119), (b44, .cells (insV x.1 x.2.1 x.2.2).cells 30 (0, 0))] w121 := hB123
          clear hP124
          refine wpO_end ?_
          refine cut_n ?_
          refine p_free ?_
          refine fE 11 31 (.extract (.tmp 30) 1) 3 (.int .i64 ((st120 : Nat) : Int)) h117 fun q125 h126 => ?_
          clear h117
          refine wpO_end ?_
          refine cut_n ?_
          refine p_alt ?_ ?_
          ·
            refine sES (t := 106) (x := (Operand.tmp 20)) (y := (Operand.tmp 31)) (z := (Operand.tmp 29)) (ty := 0) 12 0 (v := IntKind.i64.wrap ((lkD M (x.1.sender, x.1.cpty) 0) + x.1.amt)) (eV := eN) h126 hB123 rfl hM122 eR_inj (hk_rt (memB_size hpx.snd).1 (memB_size hpx.cpt).1) (by kernel_rfl) (by kernel_rfl) rfl rfl rfl (fun _ _ _ hq => .inr (hq.tail)) (fun es129 clk130 w131 hM132 hB133 hP134 q127 h128 => ?_)
            clear h126 hB123
            replace hB133 : Bx w [(b19, .map es129 clk130), (b44, .cells (insV x.1 x.2.1 x.2.2).cells 30 (0, 0))] w131 := hB133
            clear hP134
            refine wpO_end ?_
            refine cut_n ?_
            refine p_done ?_
            exact cut_n ⟨es129, clk130, h128.keep _ ⟨rfl, rfl, rfl, rfl, rfl, rfl, trivial⟩, hB133.sel [0, 1] (by decide) rfl, hM132⟩
          exact p_none
        exact p_none
      refine p_alt ?_ ?_
      ·
        refine sME (et := 2) (t := 106) (x := (Operand.tmp 20)) (y := (Operand.tmp 25)) (ty := 0) (d := 0) 10 30 0 (k := (x.1.sender, x.1.cpty)) (eV := eN) h111 hD94 rfl hx32 Krt eR_inj (hk_rt (memB_size hpx.snd).1 (memB_size hpx.cpt).1) (by kernel_rfl) Tryz.zeroValue2 (by kernel_rfl) (by kernel_rfl) (by kernel_rfl) rfl rfl (fun _ _ _ hq => hq.tail) (fun es137 clk138 st139 w140 hM141 hB142 hP143 q135 h136 => ?_)
        clear h111 hD94
        replace hB142 : Bx w [(b19, .map es137 clk138), (b44, .cells (insV x.1 x.2.1 x.2.2).cells 30 (0, 0))] w140 := hB142
        clear hP143
        refine wpO_end ?_
        refine cut_n ?_
        refine p_free ?_
        refine fE 11 31 (.extract (.tmp 30) 1) 3 (.int .i64 ((st139 : Nat) : Int)) h136 fun q144 h145 => ?_
        clear h136
        refine wpO_end ?_
        refine cut_n ?_
        refine p_alt ?_ ?_
        ·
          refine stE (i := 6) (d := 26) (op := Op.lookup 106 (Operand.tmp 20) (Operand.tmp 25) false) (ty := 2) (g := none) (v := .int .i64 (lkD M (x.1.sender, x.1.cpty) 0)) (w' := w140) h145 (by kernel_rfl) (by kernel_rfl) (by kernel_rfl) gok_none (r_lookupE hB142 0 (k := (x.1.sender, x.1.cpty)) (d := 0) rfl hM141 Krt eR_inj (hk_rt (memB_size hpx.snd).1 (memB_size hpx.cpt).1) (by kernel_rfl) Tryz.zeroValue2 rfl rfl) hB142.tail (fun q146 h147 => ?_)
          clear h145
          refine wpO_end ?_
          refine cut_n ?_
          refine p_free ?_
          refine fE 9 29 (.binOp .add 2 (.tmp 26) (.tmp 28) 2) 2 (.int .i64 (IntKind.i64.wrap ((lkD M (x.1.sender, x.1.cpty) 0) + x.1.amt))) h147 fun q148 h149 => ?_
          clear h147
          refine wpO_end ?_
          refine cut_n ?_
          refine p_alt ?_ ?_
          ·
            refine sES (t := 106) (x := (Operand.tmp 20)) (y := (Operand.tmp 31)) (z := (Operand.tmp 29)) (ty := 0) 12 0 (v := IntKind.i64.wrap ((lkD M (x.1.sender, x.1.cpty) 0) + x.1.amt)) (eV := eN) h149 hB142 rfl hM141 eR_inj (hk_rt (memB_size hpx.snd).1 (memB_size hpx.cpt).1) (by kernel_rfl) (by kernel_rfl) rfl rfl rfl (fun _ _ _ hq => .inr (hq.tail)) (fun es152 clk153 w154 hM155 hB156 hP157 q150 h151 => ?_)
            clear h149 hB142
            replace hB156 : Bx w [(b19, .map es152 clk153), (b44, .cells (insV x.1 x.2.1 x.2.2).cells 30 (0, 0))] w154 := hB156
            clear hP157
            refine wpO_end ?_
            refine cut_n ?_
            refine p_done ?_
            exact cut_n ⟨es152, clk153, h151.keep _ ⟨rfl, rfl, rfl, rfl, rfl, rfl, trivial⟩, hB156.sel [0, 1] (by decide) rfl, hM155⟩
          exact p_none
        exact p_none
      exact p_none
    rintro q158 w159 ⟨es88, clk89, h160, hB161, hM162⟩
    refine then_n ?_
    refine c_cut (fun qa qw => ∃ (es198 : Array MapEntry) (clk199 : Nat), Fr 49 [(7, .pointer (some ⟨b44, 0, none⟩)), (17, .bool (decide (((k : Nat) : Int) < ((l.length : Nat) : Int)))), (14, .slice (some ad) l.length c), (15, .int .i64 ((l.length : Nat) : Int)), (16, .int .i64 ((k : Nat) : Int)), (5, .map (some b19))] qa ∧ Bx w [(b19, .map es198 clk199), (b44, .cells (insV x.1 x.2.1 x.2.2).cells 30 (0, 0))] qw ∧ MapT Tryz.prog 108 eR eN es198 clk199 (updK (updK M (x.1.sender, x.1.cpty) (IntKind.i64.wrap ((lkD M (x.1.sender, x.1.cpty) 0) + x.1.amt))) (x.1.cpty, x.1.sender) (IntKind.i64.wrap ((lkD (updK M (x.1.sender, x.1.cpty) (IntKind.i64.wrap ((lkD M (x.1.sender, x.1.cpty) 0) + x.1.amt))) (x.1.cpty, x.1.sender) 0) - x.1.amt)))) ?_ ?_
    ·
      have hD204 := hB161.drew
      refine reg_plan (S := Bx w [(b44, .cells (insV x.1 x.2.1 x.2.2).cells 30 (0, 0))]) 13 [⟨0, true, 0, 32, 4294967296⟩, ⟨1, true, 0, 128, 8589934592⟩, ⟨2, true, 2, 8589934592, 17179869184⟩, ⟨3, true, 0, 128, 34359738368⟩, ⟨4, true, 8, 34359738368, 68719476736⟩, ⟨5, true, 20, 85899345920, 137438953472⟩, ⟨6, false, 33, 141733920768, 274877906944⟩, ⟨7, true, 0, 128, 549755813888⟩, ⟨8, true, 128, 549755813888, 1099511627776⟩, ⟨9, true, 320, 1374389534720, 2199023255552⟩, ⟨10, false, 447, 141733920768, 4398046511104⟩, ⟨11, true, 1024, 4398046511104, 8796093022208⟩, ⟨12, false, 4095, 10999411245056, 0⟩] (.free ⟨0, true, 0, 32, 4294967296⟩ (.free ⟨1, true, 0, 128, 8589934592⟩ (.free ⟨2, true, 2, 8589934592, 17179869184⟩ (.free ⟨3, true, 0, 128, 34359738368⟩ (.free ⟨4, true, 8, 34359738368, 68719476736⟩ (.free ⟨5, true, 20, 85899345920, 137438953472⟩ (.free ⟨7, true, 0, 128, 549755813888⟩ (.free ⟨8, true, 128, 549755813888, 1099511627776⟩ (.alt ⟨6, false, 33, 141733920768, 274877906944⟩ (.free ⟨9, true, 320, 1374389534720, 2199023255552⟩ (.alt ⟨10, false, 447, 141733920768, 4398046511104⟩ (.free ⟨11, true, 1024, 4398046511104, 8796093022208⟩ (.alt ⟨12, false, 4095, 10999411245056, 0⟩ (.done) (.none))) (.none))) (.alt ⟨10, false, 447, 141733920768, 4398046511104⟩ (.free ⟨11, true, 1024, 4398046511104, 8796093022208⟩ (.alt ⟨6, false, 33, 141733920768, 274877906944⟩ (.free ⟨9, true, 320, 1374389534720, 2199023255552⟩ (.alt ⟨12, false, 4095, 10999411245056, 0⟩ (.done) (.none))) (.none))) (.none))))))))))) (by kernel_rfl) (by kernel_rfl) (by kernel_rfl) (fun _ _ _ _ h => absurd h.2 (by simp)) hD204.tail ?_
      generalize World.drew w159 = w205 at hD204 ⊢
      refine p_free ?_
      refine fE 0 32 (.move (.tmp 5)) 106 (.map (some b19)) h160 fun q206 h207 => ?_
      clear h160
      refine wpO_end ?_
      refine cut_n ?_
      refine p_free ?_
      refine fE 1 33 (.fieldAddr 30 (.tmp 7) 3) 0 (.pointer (some ⟨b44, 3, none⟩)) h207 fun q208 h209 => ?_
      clear h207
      refine wpO_end ?_
      refine cut_n ?_
      refine p_free ?_
      refine fE 2 34 (.load 9 (.tmp 33)) 9 (.string x.1.cpty) h209 (hr := fun _ hS => r_loadC (b := b44) (v := .string x.1.cpty) hS 0 3 (by kernel_rfl) (by kernel_rfl) (by kernel_rfl)) fun q210 h211 => ?_
      clear h209
      refine wpO_end ?_
      refine cut_n ?_
      refine p_free ?_
      refine fE 3 35 (.fieldAddr 30 (.tmp 7) 2) 0 (.pointer (some ⟨b44, 2, none⟩)) h211 fun q212 h213 => ?_
      clear h211
      refine wpO_end ?_
      refine cut_n ?_
      refine p_free ?_
      refine fE 4 36 (.load 9 (.tmp 35)) 9 (.string x.1.sender) h213 (hr := fun _ hS => r_loadC (b := b44) (v := .string x.1.sender) hS 0 2 (by kernel_rfl) (by kernel_rfl) (by kernel_rfl)) fun q214 h215 => ?_
      clear h213
      refine wpO_end ?_
      refine cut_n ?_
      refine p_free ?_
      refine fE 5 37 (.build 108 #[(0, .tmp 34), (1, .tmp 36)]) 108 (.agg #[.string x.1.cpty, .string x.1.sender]) h215 fun q216 h217 => ?_
      clear h215
      refine wpO_end ?_
      refine cut_n ?_
      refine p_free ?_
      refine fE 7 39 (.fieldAddr 30 (.tmp 7) 7) 0 (.pointer (some ⟨b44, 7, none⟩)) h217 fun q218 h219 => ?_
      clear h217
      refine wpO_end ?_
      refine cut_n ?_
      refine p_free ?_
      refine fE 8 40 (.load 2 (.tmp 39)) 2 (.int .i64 x.1.amt) h219 (hr := fun _ hS => r_loadC (b := b44) (v := .int .i64 x.1.amt) hS 0 7 (by kernel_rfl) (by kernel_rfl) (by kernel_rfl)) fun q220 h221 => ?_
      clear h219
      refine wpO_end ?_
      refine cut_n ?_
      refine p_alt ?_ ?_
      ·
        refine stE (i := 6) (d := 38) (op := Op.lookup 106 (Operand.tmp 32) (Operand.tmp 37) false) (ty := 2) (g := none) (v := .int .i64 (lkD (updK M (x.1.sender, x.1.cpty) (IntKind.i64.wrap ((lkD M (x.1.sender, x.1.cpty) 0) + x.1.amt))) (x.1.cpty, x.1.sender) 0)) (w' := w205) h221 (by kernel_rfl) (by kernel_rfl) (by kernel_rfl) gok_none (r_lookup hD204 0 (k := (x.1.cpty, x.1.sender)) (d := 0) rfl hM162 Krt eR_inj (hk_rt (memB_size hpx.cpt).1 (memB_size hpx.snd).1) (by kernel_rfl) Tryz.zeroValue2 rfl rfl) hD204.tail (fun q222 h223 => ?_)
        clear h221
        refine wpO_end ?_
        refine cut_n ?_
        refine p_free ?_
        refine fE 9 41 (.binOp .sub 2 (.tmp 38) (.tmp 40) 2) 2 (.int .i64 (IntKind.i64.wrap ((lkD (updK M (x.1.sender, x.1.cpty) (IntKind.i64.wrap ((lkD M (x.1.sender, x.1.cpty) 0) + x.1.amt))) (x.1.cpty, x.1.sender) 0) - x.1.amt))) h223 fun q224 h225 => ?_
        clear h223
        refine wpO_end ?_
        refine cut_n ?_
        refine p_alt ?_ ?_
        ·
          refine sME (et := 2) (t := 106) (x := (Operand.tmp 32)) (y := (Operand.tmp 37)) (ty := 0) (d := 0) 10 42 0 (k := (x.1.cpty, x.1.sender)) (eV := eN) h225 hD204 rfl hM162 Krt eR_inj (hk_rt (memB_size hpx.cpt).1 (memB_size hpx.snd).1) (by kernel_rfl) Tryz.zeroValue2 (by kernel_rfl) (by kernel_rfl) (by kernel_rfl) rfl rfl (fun _ _ _ hq => hq.tail) (fun es228 clk229 st230 w231 hM232 hB233 hP234 q226 h227 => ?_)
          clear h225 hD204
          replace hB233 : Bx w [(b19, .map es228 clk229), (b44, .cells (insV x.1 x.2.1 x.2.2).cells 30 (0, 0))] w231 := hB233
          clear hP234
          refine wpO_end ?_
          refine cut_n ?_
          refine p_free ?_
          refine fE 11 43 (.extract (.tmp 42) 1) 3 (.int .i64 ((st230 : Nat) : Int)) h227 fun q235 h236 => ?_
          clear h227
          refine wpO_end ?_
          refine cut_n ?_
          refine p_alt ?_ ?_
          ·
            refine sES (t := 106) (x := (Operand.tmp 32)) (y := (Operand.tmp 43)) (z := (Operand.tmp 41)) (ty := 0) 12 0 (v := IntKind.i64.wrap ((lkD (updK M (x.1.sender, x.1.cpty) (IntKind.i64.wrap ((lkD M (x.1.sender, x.1.cpty) 0) + x.1.amt))) (x.1.cpty, x.1.sender) 0) - x.1.amt)) (eV := eN) h236 hB233 rfl hM232 eR_inj (hk_rt (memB_size hpx.cpt).1 (memB_size hpx.snd).1) (by kernel_rfl) (by kernel_rfl) rfl rfl rfl (fun _ _ _ hq => .inr (hq.tail)) (fun es239 clk240 w241 hM242 hB243 hP244 q237 h238 => ?_)
            clear h236 hB233
            replace hB243 : Bx w [(b19, .map es239 clk240), (b44, .cells (insV x.1 x.2.1 x.2.2).cells 30 (0, 0))] w241 := hB243
            clear hP244
            refine wpO_end ?_
            refine cut_n ?_
            refine p_done ?_
            exact cut_n ⟨es239, clk240, h238.keep _ ⟨rfl, rfl, rfl, rfl, rfl, rfl, trivial⟩, hB243.sel [0, 1] (by decide) rfl, hM242⟩
          exact p_none
        exact p_none
      refine p_alt ?_ ?_
      ·
        refine sME (et := 2) (t := 106) (x := (Operand.tmp 32)) (y := (Operand.tmp 37)) (ty := 0) (d := 0) 10 42 0 (k := (x.1.cpty, x.1.sender)) (eV := eN) h221 hD204 rfl hM162 Krt eR_inj (hk_rt (memB_size hpx.cpt).1 (memB_size hpx.snd).1) (by kernel_rfl) Tryz.zeroValue2 (by kernel_rfl) (by kernel_rfl) (by kernel_rfl) rfl rfl (fun _ _ _ hq => hq.tail) (fun es247 clk248 st249 w250 hM251 hB252 hP253 q245 h246 => ?_)
        clear h221 hD204
        replace hB252 : Bx w [(b19, .map es247 clk248), (b44, .cells (insV x.1 x.2.1 x.2.2).cells 30 (0, 0))] w250 := hB252
        clear hP253
        refine wpO_end ?_
        refine cut_n ?_
        refine p_free ?_
        refine fE 11 43 (.extract (.tmp 42) 1) 3 (.int .i64 ((st249 : Nat) : Int)) h246 fun q254 h255 => ?_
        clear h246
        refine wpO_end ?_
        refine cut_n ?_
        refine p_alt ?_ ?_
        ·
          refine stE (i := 6) (d := 38) (op := Op.lookup 106 (Operand.tmp 32) (Operand.tmp 37) false) (ty := 2) (g := none) (v := .int .i64 (lkD (updK M (x.1.sender, x.1.cpty) (IntKind.i64.wrap ((lkD M (x.1.sender, x.1.cpty) 0) + x.1.amt))) (x.1.cpty, x.1.sender) 0)) (w' := w250) h255 (by kernel_rfl) (by kernel_rfl) (by kernel_rfl) gok_none (r_lookupE hB252 0 (k := (x.1.cpty, x.1.sender)) (d := 0) rfl hM251 Krt eR_inj (hk_rt (memB_size hpx.cpt).1 (memB_size hpx.snd).1) (by kernel_rfl) Tryz.zeroValue2 rfl rfl) hB252.tail (fun q256 h257 => ?_)
          clear h255
          refine wpO_end ?_
          refine cut_n ?_
          refine p_free ?_
          refine fE 9 41 (.binOp .sub 2 (.tmp 38) (.tmp 40) 2) 2 (.int .i64 (IntKind.i64.wrap ((lkD (updK M (x.1.sender, x.1.cpty) (IntKind.i64.wrap ((lkD M (x.1.sender, x.1.cpty) 0) + x.1.amt))) (x.1.cpty, x.1.sender) 0) - x.1.amt))) h257 fun q258 h259 => ?_
          clear h257
          refine wpO_end ?_
          refine cut_n ?_
          refine p_alt ?_ ?_
          ·
            refine sES (t := 106) (x := (Operand.tmp 32)) (y := (Operand.tmp 43)) (z := (Operand.tmp 41)) (ty := 0) 12 0 (v := IntKind.i64.wrap ((lkD (updK M (x.1.sender, x.1.cpty) (IntKind.i64.wrap ((lkD M (x.1.sender, x.1.cpty) 0) + x.1.amt))) (x.1.cpty, x.1.sender) 0) - x.1.amt)) (eV := eN) h259 hB252 rfl hM251 eR_inj (hk_rt (memB_size hpx.cpt).1 (memB_size hpx.snd).1) (by kernel_rfl) (by kernel_rfl) rfl rfl rfl (fun _ _ _ hq => .inr (hq.tail)) (fun es262 clk263 w264 hM265 hB266 hP267 q260 h261 => ?_)
            clear h259 hB252
            replace hB266 : Bx w [(b19, .map es262 clk263), (b44, .cells (insV x.1 x.2.1 x.2.2).cells 30 (0, 0))] w264 := hB266
            clear hP267
            refine wpO_end ?_
            refine cut_n ?_
            refine p_done ?_
            exact cut_n ⟨es262, clk263, h261.keep _ ⟨rfl, rfl, rfl, rfl, rfl, rfl, trivial⟩, hB266.sel [0, 1] (by decide) rfl, hM265⟩
          exact p_none
        exact p_none
      exact p_none
    rintro q268 w269 ⟨es198, clk199, h270, hB271, hM272⟩
    refine inB_n ?_
    refine then_n ?_
    refine rp 2 ?_
    refine b0 (.E 0 44 (.int .i64 (IntKind.i64.wrap (((k : Nat) : Int) + 1))) <| .C 1 16 <| .nil) [(16, .int .i64 (IntKind.i64.wrap (((k : Nat) : Int) + 1))), (7, .pointer (some ⟨b44, 0, none⟩)), (17, .bool (decide (((k : Nat) : Int) < ((l.length : Nat) : Int)))), (14, .slice (some ad) l.length c), (15, .int .i64 ((l.length : Nat) : Int)), (5, .map (some b19))] h270 (Kw.nil hB271) fun q273 h274 => ?_
    clear h270
    refine wpO_end ?_
    have hB275 : Bx w [(b44, .cells (insV x.1 x.2.1 x.2.2).cells 30 (0, 0)), (b19, .map es198 clk199)] w269 := hB271.sel [1, 0] (by decide) rfl
    clear hB271
    have h276 := h274.keep [(14, .slice (some ad) l.length c), (15, .int .i64 ((l.length : Nat) : Int)), (16, .int .i64 (((k + 1) : Nat) : Int)), (5, .map (some b19))] ⟨rfl, rfl, look_int rfl (wrap_succ (by omega)), rfl, trivial⟩
    have hm277 := h276.int (k := 16) (kd := .i64) (z := (((k + 1) : Nat) : Int)) rfl
    refine then_n ⟨⟨k + 1, es198, clk199, netS M x.1, by omega, h276, hB275.tail, hM272, hx33.trans (netA_at hx M)⟩, ?_⟩
    show (((l.length : Int)) - intAt _ 16).toNat < (((l.length : Int)) - intAt _ 16).toNat
    rw [hm31, hm277]; omega
  have hp278 : ¬ (((k : Nat) : Int) < ((l.length : Nat) : Int)) := of_decide_eq_false hc36
  refine c_exit 0 (by kernel_rfl) ?_
  refine then_e (then_e (inB_hit ?_))
  refine then_n ?_
  refine kS ?_
  refine rp 2 ?_
  refine b0 (.C 0 45 <| .nil) [(45, .map (some b19)), (5, .map (some b19))] h35 (Kw.nil hB29) fun q279 h280 => ?_
  clear h35
  have hf287 : netA (l.map (·.1)) [] = M := hx33.trans (netA_end (by omega) M)
  refine sC 1 46 h280 gok_none (del43 b19 es clk M w27 (hB29.at 0 rfl) hx32) ?_
  rintro _ w288 ⟨rfl, hb289, es283, clk284, hh285, hM286⟩
  have hB290 : Bx w [(b19, .map es283 clk284)] w288 := hB29.newO 0 rfl hb289 hh285
  refine ⟨_, rfl, trivial, fun q281 h282 => ?_⟩
  clear h280 hB29 hb289
  refine wpO_end ?_
  have h291 := h282.keep [(5, .map (some b19))] ⟨rfl, trivial⟩
  clear h282
  refine then_n ?_
  refine kS ?_
  refine rp 4 ?_
  refine b0 (.C 0 47 <| .nil) [(47, .map (some b19))] h291 (Kw.nil hB290) fun q292 h293 => ?_
  clear h291
  have hMl : (posN M).length ≤ 10000 := by have := netA_len (l.map (·.1)) []; rw [hf287, List.length_map, List.length_nil] at this; have := posN_len M; omega
  have hMk : ∀ s ∈ (posN M).map (·.1), s.1.size ≤ 8 ∧ s.2.size ≤ 8 := fun s hs => by have hs := posN_keys hs; rw [← hf287] at hs; exact net_keys hok [] (by simp) s hs
  refine sC 1 48 h293 gok_none (p45 b19 es283 clk284 (posN M) w288 hMl hMk (hB290.at 0 rfl) hM286) ?_
  rintro _ w299 ⟨v296, rfl, ho297, hb300⟩
  have ho298 := own_base ho297 hB290.bel.size
  have hB301 := hB290.call hb300
  refine ⟨_, rfl, trivial, fun q294 h295 => ?_⟩
  clear h293 hB290 hb300
  refine b0 (.C 2 2 <| .C 3 3 <| .nil) [(3, .int .i64 0), (2, v296)] h295 (Kw.nil hB301) fun q302 h303 => ?_
  clear h295
  refine wpO_end ?_
  refine then_n ?_
  refine c_ret (by kernel_rfl) ?_
  refine ret2 (t := 2) (u := 3) (v := v296) (v' := .int .i64 0) h303 (by kernel_rfl) (by kernel_rfl) (by kernel_rfl) ?_
  refine ⟨v296, ?_, ?_, hB301.bel⟩
  · rw [show allE (l.map (·.1)) = 0 by simpa using hc14]
  · unfold nKeysR; rw [hc14, cond_false, hf287]; exact ho298

end Go.Proofs.YtljegdokbifoiaaGreatDoor.Af
