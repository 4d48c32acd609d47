/- The kinds of identifiers and their classes. Short lists. -/
import Derived.Test.YtljegdokbifoiaaDoorIc
namespace Go.Proofs.YtljegdokbifoiaaDoor.Af
open Go.RowKit
set_option maxHeartbeats 4000000 in
set_option maxRecDepth 20000 in
theorem c67  (w : World) : Calls Tryd.prog 67 #[] w (fun e w' => ∃ b0 b1 b2 b3 : Nat, e = .returned (.agg #[.int .i64 12, .slice (some ⟨b0, 0, none⟩) 3 3, .int .i64 11, .func (.func 89) #[] #[], .int .i64 4, .slice (some ⟨b1, 0, none⟩) 2 2, .int .i64 0, .nilFunc, .int .i64 1, .slice (some ⟨b2, 0, none⟩) 1 1, .int .i64 0, .nilFunc, .int .i64 20, .slice (some ⟨b3, 0, none⟩) 2 2, .int .i64 18, .func (.func 91) #[] #[]]) ∧ Rd w' (some ⟨b0, 0, none⟩) (spanC sp0) ∧ Rd w' (some ⟨b1, 0, none⟩) (spanC sp1) ∧ Rd w' (some ⟨b2, 0, none⟩) (spanC sp2) ∧ Below w.heap.size w w') := by
  refine enter Tryd.func67 (by kernel_rfl) ?_ (by kernel_rfl)
  intro q0 h0
  replace h0 := h0.conv (l' := []) rfl
  have hB := Bx.refl w
  refine kS ?_
  refine rp 1 ?_
  refine sA 0 0 (fun b => .pointer (some ⟨b, 0, none⟩)) (.cells #[.int .i64 0, .slice none 0 0, .int .i64 0, .nilFunc, .int .i64 0, .slice none 0 0, .int .i64 0, .nilFunc, .int .i64 0, .slice none 0 0, .int .i64 0, .nilFunc, .int .i64 0, .slice none 0 0, .int .i64 0, .nilFunc] 101 (0, 0)) h0 gok_none hB (fun _ _ hq => trivial) (fun b3 w4 hB5 hN q1 h2 => ?_)
  clear h0 hB hN
  refine wpO_end ?_
  refine then_n ?_
  refine kS ?_
  refine rp 18 ?_
  refine b0 (.E 0 1 (.agg #[.int .i64 2, .func (.func 86) #[] #[]]) <| .E 1 2 (.agg #[.int .i64 9, .func (.func 87) #[] #[]]) <| .E 2 3 (.agg #[.int .i64 1, .func (.func 88) #[] #[]]) <| .nil) [(3, .agg #[.int .i64 1, .func (.func 88) #[] #[]]), (2, .agg #[.int .i64 9, .func (.func 87) #[] #[]]), (1, .agg #[.int .i64 2, .func (.func 86) #[] #[]]), (0, .pointer (some ⟨b3, 0, none⟩))] h2 (Kw.nil hB5) fun q6 h7 => ?_
  clear h2
  refine sA 3 4 (fun b => .slice (some ⟨b, 0, none⟩) 3 3) (.cells #[.int .i64 2, .func (.func 86) #[] #[], .int .i64 9, .func (.func 87) #[] #[], .int .i64 1, .func (.func 88) #[] #[]] 124 (0, 0)) h7 gok_none hB5 (fun _ _ hq => trivial) (fun b10 w11 hB12 hN q8 h9 => ?_)
  clear h7 hB5 hN
  refine b0 (.E 4 5 (.agg #[.int .i64 12, .slice (some ⟨b10, 0, none⟩) 3 3, .int .i64 11, .func (.func 89) #[] #[]]) <| .E 5 6 (.agg #[.int .i64 1, .func (.func 86) #[] #[]]) <| .E 6 7 (.agg #[.int .i64 7, .func (.func 87) #[] #[]]) <| .nil) [(7, .agg #[.int .i64 7, .func (.func 87) #[] #[]]), (6, .agg #[.int .i64 1, .func (.func 86) #[] #[]]), (5, .agg #[.int .i64 12, .slice (some ⟨b10, 0, none⟩) 3 3, .int .i64 11, .func (.func 89) #[] #[]]), (0, .pointer (some ⟨b3, 0, none⟩))] h9 (Kw.nil hB12) fun q13 h14 => ?_
  clear h9
  refine sA 7 8 (fun b => .slice (some ⟨b, 0, none⟩) 2 2) (.cells #[.int .i64 1, .func (.func 86) #[] #[], .int .i64 7, .func (.func 87) #[] #[]] 124 (0, 0)) h14 gok_none hB12 (fun _ _ hq => trivial) (fun b17 w18 hB19 hN q15 h16 => ?_)
  clear h14 hB12 hN
  refine b0 (.E 8 9 (.agg #[.int .i64 4, .slice (some ⟨b17, 0, none⟩) 2 2, .int .i64 0, .nilFunc]) <| .E 9 10 (.agg #[.int .i64 16, .func (.func 90) #[] #[]]) <| .nil) [(10, .agg #[.int .i64 16, .func (.func 90) #[] #[]]), (9, .agg #[.int .i64 4, .slice (some ⟨b17, 0, none⟩) 2 2, .int .i64 0, .nilFunc]), (5, .agg #[.int .i64 12, .slice (some ⟨b10, 0, none⟩) 3 3, .int .i64 11, .func (.func 89) #[] #[]]), (0, .pointer (some ⟨b3, 0, none⟩))] h16 (Kw.nil hB19) fun q20 h21 => ?_
  clear h16
  refine sA 10 11 (fun b => .slice (some ⟨b, 0, none⟩) 1 1) (.cells #[.int .i64 16, .func (.func 90) #[] #[]] 124 (0, 0)) h21 gok_none hB19 (fun _ _ hq => trivial) (fun b24 w25 hB26 hN q22 h23 => ?_)
  clear h21 hB19 hN
  refine b0 (.E 11 12 (.agg #[.int .i64 1, .slice (some ⟨b24, 0, none⟩) 1 1, .int .i64 0, .nilFunc]) <| .E 12 13 (.agg #[.int .i64 18, .func (.func 87) #[] #[]]) <| .E 13 14 (.agg #[.int .i64 2, .func (.func 88) #[] #[]]) <| .nil) [(14, .agg #[.int .i64 2, .func (.func 88) #[] #[]]), (13, .agg #[.int .i64 18, .func (.func 87) #[] #[]]), (12, .agg #[.int .i64 1, .slice (some ⟨b24, 0, none⟩) 1 1, .int .i64 0, .nilFunc]), (9, .agg #[.int .i64 4, .slice (some ⟨b17, 0, none⟩) 2 2, .int .i64 0, .nilFunc]), (5, .agg #[.int .i64 12, .slice (some ⟨b10, 0, none⟩) 3 3, .int .i64 11, .func (.func 89) #[] #[]]), (0, .pointer (some ⟨b3, 0, none⟩))] h23 (Kw.nil hB26) fun q27 h28 => ?_
  clear h23
  refine sA 14 15 (fun b => .slice (some ⟨b, 0, none⟩) 2 2) (.cells #[.int .i64 18, .func (.func 87) #[] #[], .int .i64 2, .func (.func 88) #[] #[]] 124 (0, 0)) h28 gok_none hB26 (fun _ _ hq => trivial) (fun b31 w32 hB33 hN q29 h30 => ?_)
  clear h28 hB26 hN
  refine b0 (.E 15 16 (.agg #[.int .i64 20, .slice (some ⟨b31, 0, none⟩) 2 2, .int .i64 18, .func (.func 91) #[] #[]]) <| .E 16 17 (.agg #[.int .i64 12, .slice (some ⟨b10, 0, none⟩) 3 3, .int .i64 11, .func (.func 89) #[] #[], .int .i64 4, .slice (some ⟨b17, 0, none⟩) 2 2, .int .i64 0, .nilFunc, .int .i64 1, .slice (some ⟨b24, 0, none⟩) 1 1, .int .i64 0, .nilFunc, .int .i64 20, .slice (some ⟨b31, 0, none⟩) 2 2, .int .i64 18, .func (.func 91) #[] #[]]) <| .nil) [(17, .agg #[.int .i64 12, .slice (some ⟨b10, 0, none⟩) 3 3, .int .i64 11, .func (.func 89) #[] #[], .int .i64 4, .slice (some ⟨b17, 0, none⟩) 2 2, .int .i64 0, .nilFunc, .int .i64 1, .slice (some ⟨b24, 0, none⟩) 1 1, .int .i64 0, .nilFunc, .int .i64 20, .slice (some ⟨b31, 0, none⟩) 2 2, .int .i64 18, .func (.func 91) #[] #[]]), (0, .pointer (some ⟨b3, 0, none⟩))] h30 (Kw.nil hB33) fun q34 h35 => ?_
  clear h30
  refine sW 17 4 0 [(b31, .cells #[.int .i64 18, .func (.func 87) #[] #[], .int .i64 2, .func (.func 88) #[] #[]] 124 (0, 0)), (b24, .cells #[.int .i64 16, .func (.func 90) #[] #[]] 124 (0, 0)), (b17, .cells #[.int .i64 1, .func (.func 86) #[] #[], .int .i64 7, .func (.func 87) #[] #[]] 124 (0, 0)), (b10, .cells #[.int .i64 2, .func (.func 86) #[] #[], .int .i64 9, .func (.func 87) #[] #[], .int .i64 1, .func (.func 88) #[] #[]] 124 (0, 0)), (b3, .cells #[.int .i64 12, .slice (some ⟨b10, 0, none⟩) 3 3, .int .i64 11, .func (.func 89) #[] #[], .int .i64 4, .slice (some ⟨b17, 0, none⟩) 2 2, .int .i64 0, .nilFunc, .int .i64 1, .slice (some ⟨b24, 0, none⟩) 1 1, .int .i64 0, .nilFunc, .int .i64 20, .slice (some ⟨b31, 0, none⟩) 2 2, .int .i64 18, .func (.func 91) #[] #[]] 101 (0, 0))] h35 gok_none hB33 (.inr fun _ _ => trivial) (fun w38 hB39 hT q36 h37 => ?_)
  clear h35 hB33
  clear hT
  refine wpO_end ?_
  have h40 := h37.keep [(0, .pointer (some ⟨b3, 0, none⟩))] ⟨rfl, trivial⟩
  clear h37
  refine then_n ?_
  refine c_ret (by kernel_rfl) ?_
  refine retC (t := 0) (T := 101) (b := b3) (vs := [.int .i64 12, .slice (some ⟨b10, 0, none⟩) 3 3, .int .i64 11, .func (.func 89) #[] #[], .int .i64 4, .slice (some ⟨b17, 0, none⟩) 2 2, .int .i64 0, .nilFunc, .int .i64 1, .slice (some ⟨b24, 0, none⟩) 1 1, .int .i64 0, .nilFunc, .int .i64 20, .slice (some ⟨b31, 0, none⟩) 2 2, .int .i64 18, .func (.func 91) #[] #[]]) h40 (by kernel_rfl) (by kernel_rfl) hB39 4 (by kernel_rfl) (by kernel_rfl) (by kernel_rfl) ?_
  exact ⟨b10, b17, b24, b31, rfl, Rd.of_blk (hB39.at 3 rfl), Rd.of_blk (hB39.at 2 rfl), Rd.of_blk (hB39.at 1 rfl), hB39.bel⟩

set_option maxHeartbeats 4000000 in
set_option maxRecDepth 20000 in
theorem c69 (sh bd : Int) (fv : Value) (sp : List (Nat × Nat)) (A : Option Addr) (c : Nat) (w : World) (hn : sp.length ≤ 1000) (hcl : (clsOf sp).length ≤ 1000) (hr : Rd w A (spanC sp)) : Calls Tryd.prog 69 #[.agg #[.int .i64 sh, .slice A sp.length c, .int .i64 bd, fv]] w (fun e w' => ∃ v : Value, e = .returned v ∧ w'.ownsRow w.heap.size 122 1 v (clsOf sp).length ((clsOf sp).map fnV) ∧ Below w.heap.size w w') := by
  refine enter Tryd.func69 (by kernel_rfl) ?_ (by kernel_rfl)
  intro q0 h0
  replace h0 := h0.conv (l' := [(0, .agg #[.int .i64 sh, .slice A sp.length c, .int .i64 bd, fv])]) rfl
  have hB := Bx.refl w
  refine kS ?_
  refine rp 2 ?_
  refine sA 0 1 (fun b => .pointer (some ⟨b, 0, none⟩)) (.cells #[.int .i64 sh, .slice A sp.length c, .int .i64 bd, fv] 100 (0, 0)) h0 gok_none hB (fun _ _ hq => trivial) (fun b3 w4 hB5 hN q1 h2 => ?_)
  clear h0 hB hN
  refine b0 (.C 1 2 <| .nil) [(2, .slice none 0 0), (1, .pointer (some ⟨b3, 0, none⟩))] h2 (Kw.nil hB5) fun q6 h7 => ?_
  clear h2
  refine wpO_end ?_
  refine then_n ?_
  refine kS ?_
  refine rp 1 ?_
  refine b0 (.C 0 3 <| .nil) [(3, .slice none 0 0), (2, .slice none 0 0), (1, .pointer (some ⟨b3, 0, none⟩))] h7 (Kw.nil hB5) fun q8 h9 => ?_
  clear h7
  refine wpO_end ?_
  refine then_n ?_
  refine kS ?_
  refine kS ?_
  refine rp 4 ?_
  refine b0 (.C 0 6 <| .L 1 7 0 1 <| .E 2 8 (.int .i64 ((sp.length : Nat) : Int)) <| .C 3 9 <| .nil) [(9, .int .i64 0), (8, .int .i64 ((sp.length : Nat) : Int)), (7, .slice A sp.length c), (3, .slice none 0 0), (2, .slice none 0 0)] h9 (Kw.nil hB5) fun q10 h11 => ?_
  clear h9
  refine wpO_end ?_
  refine then_n ?_
  refine c_block 0 (by kernel_rfl) ?_
  refine c_loop (by kernel_rfl) (fun qa qw => ∃ k : Nat, ∃ (v : Value), (k ≤ sp.length) ∧ Fr 25 [(7, .slice A sp.length c), (8, .int .i64 ((sp.length : Nat) : Int)), (9, .int .i64 ((k : Nat) : Int)), (3, v)] qa ∧ Bx w [(b3, .cells #[.int .i64 sh, .slice A sp.length c, .int .i64 bd, fv] 100 (0, 0))] qw ∧ (qw.ownsRow w.heap.size 122 1 v (clsOf (sp.take k)).length ((clsOf (sp.take k)).map fnV))) (fun qa _ => (((sp.length : Int)) - intAt qa 9).toNat) ⟨0, .slice none 0 0, Nat.zero_le _, h11.keep _ ⟨rfl, rfl, rfl, rfl, trivial⟩, hB5, own_nil _ _ _ _⟩ ?_
  rintro q12 w13 ⟨k, v, hk16, h14, hB15, hx18⟩
  have hm17 := h14.int (k := 9) (kd := .i64) (z := ((k : Nat) : Int)) rfl
  clear h11 hB5
  refine kS ?_
  refine rp 1 ?_
  refine b0 (.E 0 10 (.bool (decide (((k : Nat) : Int) < ((sp.length : Nat) : Int)))) <| .nil) [(10, .bool (decide (((k : Nat) : Int) < ((sp.length : Nat) : Int)))), (7, .slice A sp.length c), (8, .int .i64 ((sp.length : Nat) : Int)), (9, .int .i64 ((k : Nat) : Int)), (3, v)] h14 (Kw.nil hB15) fun q19 h20 => ?_
  clear h14
  refine wpO_end ?_
  refine then_n ?_
  refine kS ?_
  refine kC 10 (decide (((k : Nat) : Int) < ((sp.length : Nat) : Int))) h20 (fun hc21 => ?_) (fun hc21 => ?_)
  ·
    have hp22 : (((k : Nat) : Int) < ((sp.length : Nat) : Int)) := of_decide_eq_true hc21
    have hlt : k < sp.length := by omega
    obtain ⟨x, hx⟩ : ∃ x, sp[k]? = some x := ⟨sp[k], List.getElem?_eq_getElem hlt⟩
    obtain ⟨ad, hA, hE0⟩ := hr.el (k * 2) [.int .i64 ((x.1 : Nat) : Int), fnV x.2] (by simp) (spanC_get sp k x hx)
    subst hA
    refine c_skip (by kernel_rfl) ?_
    refine then_n ?_
    refine kS ?_
    refine c_block 1 (by kernel_rfl) ?_
    refine kS ?_
    refine rp 4 ?_
    refine eE 0 11 (.indexAddr 97 (.tmp 7) (.tmp 9)) 0 (.pointer (some ((ad.add (k * 2)).add 0))) h20 (hr := r_index0 (n := sp.length) (c := c) (kd := .i64) (by kernel_rfl) (by kernel_rfl) hlt (by kernel_rfl)) fun q23 h24 => ?_
    clear h20
    refine b0 (.Y 1 12 0 0 2 <| .nil) [(12, .agg #[.int .i64 ((x.1 : Nat) : Int), .func (.func x.2) #[] #[]]), (10, .bool (decide (((k : Nat) : Int) < ((sp.length : Nat) : Int)))), (7, .slice (some ad) sp.length c), (8, .int .i64 ((sp.length : Nat) : Int)), (9, .int .i64 ((k : Nat) : Int)), (3, v)] h24 ((Kw.nil hB15).cons (hE0.below hB15.bel)) fun q25 h26 => ?_
    clear h24
    refine sA 2 5 (fun b => .pointer (some ⟨b, 0, none⟩)) (.cells #[.int .i64 0, .nilFunc] 124 (0, 0)) h26 gok_none hB15 (fun _ _ hq => trivial) (fun b29 w30 hB31 hN q27 h28 => ?_)
    have ho32 := own_below hx18 hN
    clear h26 hB15 hN
    refine sW 3 0 0 [(b29, .cells #[.int .i64 ((x.1 : Nat) : Int), .func (.func x.2) #[] #[]] 124 (0, 0)), (b3, .cells #[.int .i64 sh, .slice (some ad) sp.length c, .int .i64 bd, fv] 100 (0, 0))] h28 gok_none hB31 (.inr fun _ _ => trivial) (fun w35 hB36 hT q33 h34 => ?_)
    clear h28 hB31
    have ho37 := own_turned ho32 hT (by kernel_rfl)
    clear hT
    refine wpO_end ?_
    have h38 := h34.keep [(5, .pointer (some ⟨b29, 0, none⟩)), (10, .bool (decide (((k : Nat) : Int) < ((sp.length : Nat) : Int)))), (7, .slice (some ad) sp.length c), (8, .int .i64 ((sp.length : Nat) : Int)), (9, .int .i64 ((k : Nat) : Int)), (3, v)] ⟨rfl, rfl, rfl, rfl, rfl, rfl, trivial⟩
    clear h34
    refine then_n ?_
    refine kS ?_
    refine rp 3 ?_
    refine b0 (.C 0 13 <| .L 1 14 0 0 <| .C 2 15 <| .nil) [(15, .int .i64 0), (14, .int .i64 ((x.1 : Nat) : Int)), (5, .pointer (some ⟨b29, 0, none⟩)), (10, .bool (decide (((k : Nat) : Int) < ((sp.length : Nat) : Int)))), (7, .slice (some ad) sp.length c), (8, .int .i64 ((sp.length : Nat) : Int)), (9, .int .i64 ((k : Nat) : Int)), (3, v)] h38 (Kw.nil hB36) fun q39 h40 => ?_
    clear h38
    refine wpO_end ?_
    refine then_n ?_
    refine c_block 2 (by kernel_rfl) ?_
    refine c_loop (by kernel_rfl) (fun qa qw => ∃ j : Nat, ∃ (v : Value), (j ≤ x.1) ∧ Fr 25 [(7, .slice (some ad) sp.length c), (8, .int .i64 ((sp.length : Nat) : Int)), (9, .int .i64 ((k : Nat) : Int)), (5, .pointer (some ⟨b29, 0, none⟩)), (14, .int .i64 ((x.1 : Nat) : Int)), (15, .int .i64 ((j : Nat) : Int)), (3, v)] qa ∧ Bx w [(b29, .cells #[.int .i64 ((x.1 : Nat) : Int), .func (.func x.2) #[] #[]] 124 (0, 0)), (b3, .cells #[.int .i64 sh, .slice (some ad) sp.length c, .int .i64 bd, fv] 100 (0, 0))] qw ∧ (qw.ownsRow w.heap.size 122 1 v ((clsOf (sp.take k)).length + j) ((clsOf (sp.take k)).map fnV ++ List.replicate j (fnV x.2)))) (fun qa _ => ((((x.1 : Nat) : Int)) - intAt qa 15).toNat) ⟨0, v, Nat.zero_le _, h40.keep _ ⟨rfl, rfl, rfl, rfl, rfl, rfl, rfl, trivial⟩, hB36, by rw [List.replicate_zero, List.append_nil]; exact ho37⟩ ?_
    rintro q41 w42 ⟨j, v, hk45, h43, hB44, hx47⟩
    have hm46 := h43.int (k := 15) (kd := .i64) (z := ((j : Nat) : Int)) rfl
    clear h40 hB36
    refine kS ?_
    refine rp 1 ?_
    refine b0 (.E 0 16 (.bool (decide (((j : Nat) : Int) < ((x.1 : Nat) : Int)))) <| .nil) [(16, .bool (decide (((j : Nat) : Int) < ((x.1 : Nat) : Int)))), (7, .slice (some ad) sp.length c), (8, .int .i64 ((sp.length : Nat) : Int)), (9, .int .i64 ((k : Nat) : Int)), (5, .pointer (some ⟨b29, 0, none⟩)), (14, .int .i64 ((x.1 : Nat) : Int)), (15, .int .i64 ((j : Nat) : Int)), (3, v)] h43 (Kw.nil hB44) fun q48 h49 => ?_
    clear h43
    refine wpO_end ?_
    refine then_n ?_
    refine kS ?_
    refine kC 16 (decide (((j : Nat) : Int) < ((x.1 : Nat) : Int))) h49 (fun hc50 => ?_) (fun hc50 => ?_)
    ·
      have hp51 : (((j : Nat) : Int) < ((x.1 : Nat) : Int)) := of_decide_eq_true hc50
      have hjl : j < x.1 := by omega
      have hcb := clsOf_len sp k x hx
      refine c_skip (by kernel_rfl) ?_
      refine then_n ?_
      refine kS ?_
      refine c_block 3 (by kernel_rfl) ?_
      refine rp 6 ?_
      refine b0 (.C 0 17 <| .C 1 18 <| .L 2 19 0 1 <| .nil) [(19, .func (.func x.2) #[] #[]), (17, v), (16, .bool (decide (((j : Nat) : Int) < ((x.1 : Nat) : Int)))), (7, .slice (some ad) sp.length c), (8, .int .i64 ((sp.length : Nat) : Int)), (9, .int .i64 ((k : Nat) : Int)), (5, .pointer (some ⟨b29, 0, none⟩)), (14, .int .i64 ((x.1 : Nat) : Int)), (15, .int .i64 ((j : Nat) : Int)), (3, v)] h49 (Kw.nil hB44) fun q52 h53 => ?_
      clear h49
      refine sA 3 20 (fun b => .slice (some ⟨b, 0, none⟩) 1 1) (.cells #[.func (.func x.2) #[] #[]] 122 (0, 0)) h53 gok_none hB44 (fun _ _ hq => trivial) (fun b56 w57 hB58 hN q54 h55 => ?_)
      have ho59 := own_below hx47 hN
      clear h53 hB44 hN
      have hr68 := Rd.of_blk (hB58.at 0 rfl)
      refine stApp (x := Operand.tmp 17) (y := Operand.tmp 20) (i := 4) (d := 21) (t := 104) (e := 122) (size := 1) (bytes := 8) (base := w.heap.size) (nn := ((clsOf (sp.take k)).length + j)) (m := 1) (c := 1) (ty := 104) (g := none) (v := v) (xs := ((clsOf (sp.take k)).map fnV ++ List.replicate j (fnV x.2))) (news := [.func (.func x.2) #[] #[]]) (ad := ⟨b56, 0, none⟩) h55 (by kernel_rfl) (by kernel_rfl) (by kernel_rfl) gok_none (by kernel_rfl) (by decide) (by kernel_rfl) (by kernel_rfl) ho59 (by kernel_rfl) (fun j u hj => by obtain ⟨ad', e1, -, h1⟩ := hr68 j u hj; cases e1; exact h1) (by intro u hu; revert u hu; simp only [List.forall_mem_cons]; exact ⟨rfl, fun _ h => absurd h (by simp)⟩) (by first | (unfold maxLen; omega) | omega) (by first | (unfold maxLen; omega) | omega) hB58.tail hB58.bel.size (Nat.le_refl _) (by kernel_rfl) (fun _ hq => trivial) (fun v62 w63 ho64 hg65 hB66 hz67 q60 h61 => ?_)
      clear h55 hB58 hr68
      refine b0 (.C 5 3 <| .nil) [(3, v62), (16, .bool (decide (((j : Nat) : Int) < ((x.1 : Nat) : Int)))), (7, .slice (some ad) sp.length c), (8, .int .i64 ((sp.length : Nat) : Int)), (9, .int .i64 ((k : Nat) : Int)), (5, .pointer (some ⟨b29, 0, none⟩)), (14, .int .i64 ((x.1 : Nat) : Int)), (15, .int .i64 ((j : Nat) : Int))] h61 (Kw.nil hB66) fun q69 h70 => ?_
      clear h61
      refine wpO_end ?_
      refine inB_n ?_
      refine then_n ?_
      refine rp 2 ?_
      refine b0 (.E 0 22 (.int .i64 (IntKind.i64.wrap (((j : Nat) : Int) + 1))) <| .C 1 15 <| .nil) [(15, .int .i64 (IntKind.i64.wrap (((j : Nat) : Int) + 1))), (3, v62), (16, .bool (decide (((j : Nat) : Int) < ((x.1 : Nat) : Int)))), (7, .slice (some ad) sp.length c), (8, .int .i64 ((sp.length : Nat) : Int)), (9, .int .i64 ((k : Nat) : Int)), (5, .pointer (some ⟨b29, 0, none⟩)), (14, .int .i64 ((x.1 : Nat) : Int))] h70 (Kw.nil hB66) fun q71 h72 => ?_
      clear h70
      refine wpO_end ?_
      have h73 := h72.keep [(7, .slice (some ad) sp.length c), (8, .int .i64 ((sp.length : Nat) : Int)), (9, .int .i64 ((k : Nat) : Int)), (5, .pointer (some ⟨b29, 0, none⟩)), (14, .int .i64 ((x.1 : Nat) : Int)), (15, .int .i64 (((j + 1) : Nat) : Int)), (3, v62)] ⟨rfl, rfl, rfl, rfl, rfl, look_int rfl (wrap_succ (by have := hcl; omega)), rfl, trivial⟩
      have hm74 := h73.int (k := 15) (kd := .i64) (z := (((j + 1) : Nat) : Int)) rfl
      refine then_n ⟨⟨j + 1, v62, by omega, h73, hB66, by rw [← rep_snoc]; exact ho64⟩, ?_⟩
      show ((((x.1 : Nat) : Int)) - intAt _ 15).toNat < ((((x.1 : Nat) : Int)) - intAt _ 15).toNat
      rw [hm46, hm74]; omega
    have hp75 : ¬ (((j : Nat) : Int) < ((x.1 : Nat) : Int)) := of_decide_eq_false hc50
    obtain rfl : j = x.1 := by omega
    refine c_exit 2 (by kernel_rfl) ?_
    refine then_e (then_e (inB_hit ?_))
    refine inB_n ?_
    refine then_n ?_
    refine rp 2 ?_
    refine b0 (.E 0 23 (.int .i64 (IntKind.i64.wrap (((k : Nat) : Int) + 1))) <| .C 1 9 <| .nil) [(9, .int .i64 (IntKind.i64.wrap (((k : Nat) : Int) + 1))), (16, .bool (decide (((x.1 : Nat) : Int) < ((x.1 : Nat) : Int)))), (7, .slice (some ad) sp.length c), (8, .int .i64 ((sp.length : Nat) : Int)), (5, .pointer (some ⟨b29, 0, none⟩)), (14, .int .i64 ((x.1 : Nat) : Int)), (15, .int .i64 ((x.1 : Nat) : Int)), (3, v)] h49 (Kw.nil hB44) fun q76 h77 => ?_
    clear h49
    refine wpO_end ?_
    have h78 := h77.keep [(7, .slice (some ad) sp.length c), (8, .int .i64 ((sp.length : Nat) : Int)), (9, .int .i64 (((k + 1) : Nat) : Int)), (3, v)] ⟨rfl, rfl, look_int rfl (wrap_succ (by have := hn; omega)), rfl, trivial⟩
    have hm79 := h78.int (k := 9) (kd := .i64) (z := (((k + 1) : Nat) : Int)) rfl
    refine then_n ⟨⟨k + 1, v, by omega, h78, hB44.tail, by rw [clsOf_row sp k x hx, clsOf_take sp k x hx, List.length_append, List.length_replicate]; exact hx47⟩, ?_⟩
    show (((sp.length : Int)) - intAt _ 9).toNat < (((sp.length : Int)) - intAt _ 9).toNat
    rw [hm17, hm79]; omega
  have hp80 : ¬ (((k : Nat) : Int) < ((sp.length : Nat) : Int)) := of_decide_eq_false hc21
  obtain rfl : k = sp.length := by omega
  refine c_exit 0 (by kernel_rfl) ?_
  refine then_e (then_e (inB_hit ?_))
  refine then_n ?_
  refine kS ?_
  refine rp 2 ?_
  refine b0 (.C 0 24 <| .C 1 2 <| .nil) [(2, v)] h20 (Kw.nil hB15) fun q81 h82 => ?_
  clear h20
  refine wpO_end ?_
  refine then_n ?_
  refine c_ret (by kernel_rfl) ?_
  refine ret1 (t := 2) (v := v) h82 (by kernel_rfl) (by kernel_rfl) ?_
  exact ⟨v, rfl, by have := hx18; rwa [List.take_length] at this, hB15.bel⟩

end Go.Proofs.YtljegdokbifoiaaDoor.Af
