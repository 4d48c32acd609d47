/- The first broken rule's error. The list is shorter than 2^62. -/
import Derived.Test.YtljegdokbifoiaaDoorMs
namespace Go.Proofs.YtljegdokbifoiaaDoor.Af
open Go.RowKit
set_option maxHeartbeats 4000000 in
set_option maxRecDepth 20000 in
theorem c60 (b : Bool) (e : Int) (w : World) : Calls Tryd.prog 60 #[.agg #[.bool b, .int .i64 e]] w fun e w' => e = .returned (.bool b) ∧ Below w.heap.size w w' := by
  refine enter Tryd.func60 (by kernel_rfl) ?_ (by kernel_rfl)
  intro q0 h0
  replace h0 := h0.conv (l' := [(0, .agg #[.bool b, .int .i64 e])]) rfl
  have hB := Bx.refl w
  refine kS ?_
  refine rp 2 ?_
  refine sA 0 1 (fun b => .pointer (some ⟨b, 0, none⟩)) (.cells #[.bool b, .int .i64 e] 71 (0, 0)) h0 gok_none hB (fun _ _ hq => trivial) (fun b3 w4 hB5 hN q1 h2 => ?_)
  clear h0 hB hN
  refine b0 (.C 1 2 <| .nil) [(2, .bool false), (1, .pointer (some ⟨b3, 0, none⟩))] h2 (Kw.nil hB5) fun q6 h7 => ?_
  clear h2
  refine wpO_end ?_
  refine then_n ?_
  refine kS ?_
  refine rp 3 ?_
  refine b0 (.C 0 3 <| .L 1 4 0 0 <| .C 2 2 <| .nil) [(2, .bool b)] h7 (Kw.nil hB5) fun q8 h9 => ?_
  clear h7
  refine wpO_end ?_
  refine then_n ?_
  refine c_ret (by kernel_rfl) ?_
  refine ret1 (t := 2) (v := .bool b) h9 (by kernel_rfl) (by kernel_rfl) ?_
  exact ⟨ret_eq (rfl), hB5.bel⟩

set_option maxHeartbeats 4000000 in
set_option maxRecDepth 20000 in
theorem c59 (rs : List (Bool × Int)) (A : Option Addr) (c : Nat) (w : World) (hn : rs.length ≤ 4611686018427387904) (hr : Rd w A (rulec rs)) : Calls Tryd.prog 59 #[.slice A rs.length c, .func (.func 60) #[] #[]] w fun e w' => e = .returned (.int .i64 (idxR rs 0)) ∧ Below w.heap.size w w' := by
  refine enter Tryd.func59 (by kernel_rfl) ?_ (by kernel_rfl)
  intro q0 h0
  replace h0 := h0.conv (l' := [(0, .slice A rs.length c), (1, .func (.func 60) #[] #[])]) rfl
  have hB := Bx.refl w
  refine kS ?_
  refine rp 1 ?_
  refine b0 (.C 0 4 <| .nil) [(4, .int .i64 0), (0, .slice A rs.length c), (1, .func (.func 60) #[] #[])] h0 (Kw.nil hB) fun q1 h2 => ?_
  clear h0
  refine wpO_end ?_
  refine then_n ?_
  refine kS ?_
  refine kS ?_
  refine rp 3 ?_
  refine b0 (.C 0 6 <| .E 1 7 (.int .i64 ((rs.length : Nat) : Int)) <| .C 2 8 <| .nil) [(8, .int .i64 0), (7, .int .i64 ((rs.length : Nat) : Int)), (4, .int .i64 0), (0, .slice A rs.length c), (1, .func (.func 60) #[] #[])] h2 (Kw.nil hB) fun q3 h4 => ?_
  clear h2
  refine wpO_end ?_
  refine then_n ?_
  refine c_block 0 (by kernel_rfl) ?_
  refine c_loop (by kernel_rfl) (fun qa qw => ∃ k : Nat, (k ≤ rs.length) ∧ Fr 19 [(7, .int .i64 ((rs.length : Nat) : Int)), (8, .int .i64 ((k : Nat) : Int)), (1, .func (.func 60) #[] #[]), (0, .slice A rs.length c)] qa ∧ Bx w [] qw ∧ (∀ (j : Nat) (y : Bool × Int), j < k → rs[j]? = some y → y.1 = false)) (fun qa _ => (((rs.length : Int)) - intAt qa 8).toNat) ⟨0, Nat.zero_le _, h4.keep _ ⟨rfl, rfl, rfl, rfl, trivial⟩, hB, fun j y hj => absurd hj (Nat.not_lt_zero _)⟩ ?_
  rintro q5 w6 ⟨k, hk9, h7, hB8, hx11⟩
  have hm10 := h7.int (k := 8) (kd := .i64) (z := ((k : Nat) : Int)) rfl
  clear h4 hB
  refine kS ?_
  refine rp 1 ?_
  refine b0 (.E 0 9 (.bool (decide (((k : Nat) : Int) < ((rs.length : Nat) : Int)))) <| .nil) [(9, .bool (decide (((k : Nat) : Int) < ((rs.length : Nat) : Int)))), (7, .int .i64 ((rs.length : Nat) : Int)), (8, .int .i64 ((k : Nat) : Int)), (1, .func (.func 60) #[] #[]), (0, .slice A rs.length c)] h7 (Kw.nil hB8) fun q12 h13 => ?_
  clear h7
  refine wpO_end ?_
  refine then_n ?_
  refine kS ?_
  refine kC 9 (decide (((k : Nat) : Int) < ((rs.length : Nat) : Int))) h13 (fun hc14 => ?_) (fun hc14 => ?_)
  ·
    have hp15 : (((k : Nat) : Int) < ((rs.length : Nat) : Int)) := of_decide_eq_true hc14
    have hlt : k < rs.length := by omega
    obtain ⟨x, hx⟩ : ∃ x, rs[k]? = some x := ⟨rs[k], List.getElem?_eq_getElem hlt⟩
    obtain ⟨ad, hA, hE0⟩ := hr.el (k * 2) [.bool x.1, .int .i64 x.2] (by simp) (rulec_get rs k x hx)
    subst hA
    refine c_skip (by kernel_rfl) ?_
    refine then_n ?_
    refine kS ?_
    refine c_block 1 (by kernel_rfl) ?_
    refine kS ?_
    refine rp 2 ?_
    refine b0 (.C 0 10 <| .C 1 5 <| .nil) [(5, .int .i64 ((k : Nat) : Int)), (9, .bool (decide (((k : Nat) : Int) < ((rs.length : Nat) : Int)))), (7, .int .i64 ((rs.length : Nat) : Int)), (8, .int .i64 ((k : Nat) : Int)), (1, .func (.func 60) #[] #[]), (0, .slice (some ad) rs.length c)] h13 (Kw.nil hB8) fun q16 h17 => ?_
    clear h13
    refine wpO_end ?_
    refine then_n ?_
    refine kS ?_
    refine rp 6 ?_
    refine b0 (.C 0 11 <| .C 1 12 <| .C 2 13 <| .nil) [(13, .int .i64 ((k : Nat) : Int)), (12, .slice (some ad) rs.length c), (11, .func (.func 60) #[] #[]), (5, .int .i64 ((k : Nat) : Int)), (9, .bool (decide (((k : Nat) : Int) < ((rs.length : Nat) : Int)))), (7, .int .i64 ((rs.length : Nat) : Int)), (8, .int .i64 ((k : Nat) : Int)), (1, .func (.func 60) #[] #[]), (0, .slice (some ad) rs.length c)] h17 (Kw.nil hB8) fun q18 h19 => ?_
    clear h17
    refine eE 3 14 (.indexAddr 86 (.tmp 12) (.tmp 13)) 0 (.pointer (some ((ad.add (k * 2)).add 0))) h19 (hr := r_index0 (n := rs.length) (c := c) (kd := .i64) (by kernel_rfl) (by kernel_rfl) hlt (by kernel_rfl)) fun q20 h21 => ?_
    clear h19
    refine b0 (.Y 4 15 0 0 2 <| .nil) [(15, .agg #[.bool x.1, .int .i64 x.2]), (11, .func (.func 60) #[] #[]), (5, .int .i64 ((k : Nat) : Int)), (9, .bool (decide (((k : Nat) : Int) < ((rs.length : Nat) : Int)))), (7, .int .i64 ((rs.length : Nat) : Int)), (8, .int .i64 ((k : Nat) : Int)), (1, .func (.func 60) #[] #[]), (0, .slice (some ad) rs.length c)] h21 ((Kw.nil hB8).cons (hE0.below hB8.bel)) fun q22 h23 => ?_
    clear h21
    refine sC 5 16 h23 gok_none (c60 x.1 x.2 w6) ?_
    rintro _ w26 ⟨rfl, hb27⟩
    have hB28 := hB8.call hb27
    refine ⟨_, rfl, trivial, fun q24 h25 => ?_⟩
    clear h23 hB8 hb27
    refine wpO_end ?_
    have h29 := h25.keep [(16, .bool x.1), (5, .int .i64 ((k : Nat) : Int)), (9, .bool (decide (((k : Nat) : Int) < ((rs.length : Nat) : Int)))), (7, .int .i64 ((rs.length : Nat) : Int)), (8, .int .i64 ((k : Nat) : Int)), (1, .func (.func 60) #[] #[]), (0, .slice (some ad) rs.length c)] ⟨rfl, rfl, rfl, rfl, rfl, rfl, rfl, trivial⟩
    clear h25
    refine then_n ?_
    refine kC 16 x.1 h29 (fun hc30 => ?_) (fun hc30 => ?_)
    ·
      refine kS ?_
      refine rp 2 ?_
      refine b0 (.C 0 17 <| .C 1 4 <| .nil) [(4, .int .i64 ((k : Nat) : Int)), (16, .bool x.1), (5, .int .i64 ((k : Nat) : Int)), (9, .bool (decide (((k : Nat) : Int) < ((rs.length : Nat) : Int)))), (7, .int .i64 ((rs.length : Nat) : Int)), (8, .int .i64 ((k : Nat) : Int)), (1, .func (.func 60) #[] #[]), (0, .slice (some ad) rs.length c)] h29 (Kw.nil hB28) fun q31 h32 => ?_
      clear h29
      refine wpO_end ?_
      refine then_n ?_
      refine c_ret (by kernel_rfl) ?_
      refine inB_r (then_r (then_r (inB_r (then_r ?_))))
      refine ret1 (t := 4) (v := .int .i64 ((k : Nat) : Int)) h32 (by kernel_rfl) (by kernel_rfl) ?_
      exact ⟨ret_eq (congrArg (Value.int .i64) ((idxR_some rs 0 k x hx11 hx hc30).trans (by rw [Nat.zero_add])).symm), hB28.bel⟩
    refine c_skip (by kernel_rfl) ?_
    refine inB_n ?_
    refine then_n ?_
    refine rp 2 ?_
    refine b0 (.E 0 18 (.int .i64 (IntKind.i64.wrap (((k : Nat) : Int) + 1))) <| .C 1 8 <| .nil) [(8, .int .i64 (IntKind.i64.wrap (((k : Nat) : Int) + 1))), (16, .bool x.1), (5, .int .i64 ((k : Nat) : Int)), (9, .bool (decide (((k : Nat) : Int) < ((rs.length : Nat) : Int)))), (7, .int .i64 ((rs.length : Nat) : Int)), (1, .func (.func 60) #[] #[]), (0, .slice (some ad) rs.length c)] h29 (Kw.nil hB28) fun q33 h34 => ?_
    clear h29
    refine wpO_end ?_
    have h35 := h34.keep [(7, .int .i64 ((rs.length : Nat) : Int)), (8, .int .i64 (((k + 1) : Nat) : Int)), (1, .func (.func 60) #[] #[]), (0, .slice (some ad) rs.length c)] ⟨rfl, look_int rfl (wrap_succ (by have := hn; omega)), rfl, rfl, trivial⟩
    have hm36 := h35.int (k := 8) (kd := .i64) (z := (((k + 1) : Nat) : Int)) rfl
    refine then_n ⟨⟨k + 1, by omega, h35, hB28, fun j y hj hy => by rcases Nat.lt_succ_iff_lt_or_eq.1 hj with h' | rfl; exact hx11 j y h' hy; rw [hx] at hy; cases hy; exact hc30⟩, ?_⟩
    show (((rs.length : Int)) - intAt _ 8).toNat < (((rs.length : Int)) - intAt _ 8).toNat
    rw [hm10, hm36]; omega
  have hp37 : ¬ (((k : Nat) : Int) < ((rs.length : Nat) : Int)) := of_decide_eq_false hc14
  refine c_exit 0 (by kernel_rfl) ?_
  refine then_e (then_e (inB_hit ?_))
  refine then_n ?_
  refine kS ?_
  refine rp 1 ?_
  refine b0 (.C 0 4 <| .nil) [(4, .int .i64 (-1))] h13 (Kw.nil hB8) fun q38 h39 => ?_
  clear h13
  refine wpO_end ?_
  refine then_n ?_
  refine c_ret (by kernel_rfl) ?_
  refine ret1 (t := 4) (v := .int .i64 (-1)) h39 (by kernel_rfl) (by kernel_rfl) ?_
  exact ⟨ret_eq (congrArg (Value.int .i64) (idxR_none rs 0 fun j y hj => hx11 j y (by have := (List.getElem?_eq_some_iff.1 hj).1; omega) hj).symm), hB8.bel⟩

set_option maxHeartbeats 4000000 in
set_option maxRecDepth 20000 in
theorem c39 (rs : List (Bool × Int)) (A : Option Addr) (c : Nat) (w : World) (hn : rs.length ≤ 4611686018427387904) (hr : Rd w A (rulec rs)) : Calls Tryd.prog 39 #[.slice A rs.length c] w fun e w' => e = .returned (.int .i64 (firstE rs)) ∧ Below w.heap.size w w' := by
  refine enter Tryd.func39 (by kernel_rfl) ?_ (by kernel_rfl)
  intro q0 h0
  replace h0 := h0.conv (l' := [(0, .slice A rs.length c)]) rfl
  have hB := Bx.refl w
  refine kS ?_
  refine rp 1 ?_
  refine b0 (.C 0 2 <| .nil) [(2, .int .i64 0), (0, .slice A rs.length c)] h0 (Kw.nil hB) fun q1 h2 => ?_
  clear h0
  refine wpO_end ?_
  refine then_n ?_
  refine kS ?_
  refine kS ?_
  refine rp 3 ?_
  refine b0 (.C 0 4 <| .nil) [(4, .slice A rs.length c), (2, .int .i64 0), (0, .slice A rs.length c)] h2 (Kw.nil hB) fun q3 h4 => ?_
  clear h2
  refine sC 1 5 h4 gok_none (c59 rs A c w hn (hr.below hB.bel)) ?_
  rintro _ w7 ⟨rfl, hb8⟩
  have hB9 := hB.call hb8
  refine ⟨_, rfl, trivial, fun q5 h6 => ?_⟩
  clear h4 hB hb8
  refine b0 (.C 2 3 <| .nil) [(3, .int .i64 (idxR rs 0)), (2, .int .i64 0), (0, .slice A rs.length c)] h6 (Kw.nil hB9) fun q10 h11 => ?_
  clear h6
  refine wpO_end ?_
  refine then_n ?_
  refine kS ?_
  refine rp 2 ?_
  refine b0 (.C 0 6 <| .E 1 7 (.bool (decide ((0 : Int) ≤ idxR rs 0))) <| .nil) [(7, .bool (decide ((0 : Int) ≤ idxR rs 0))), (3, .int .i64 (idxR rs 0)), (2, .int .i64 0), (0, .slice A rs.length c)] h11 (Kw.nil hB9) fun q12 h13 => ?_
  clear h11
  refine wpO_end ?_
  refine then_n ?_
  refine kC 7 (decide ((0 : Int) ≤ idxR rs 0)) h13 (fun hc14 => ?_) (fun hc14 => ?_)
  ·
    have hp15 : ((0 : Int) ≤ idxR rs 0) := of_decide_eq_true hc14
    rcases firstE_of_idx rs with ⟨hi, hf⟩ | ⟨k, x, hlt, hi, hx, hf⟩
    · exfalso; omega
    obtain ⟨ad, hA, hE0⟩ := hr.el (k * 2) [.bool x.1, .int .i64 x.2] (by simp) (rulec_get rs k x hx)
    subst hA
    refine kS ?_
    refine rp 6 ?_
    refine b0 (.C 0 8 <| .C 1 9 <| .nil) [(9, .int .i64 (idxR rs 0)), (8, .slice (some ad) rs.length c), (2, .int .i64 0)] h13 (Kw.nil hB9) fun q16 h17 => ?_
    clear h13
    refine eE 2 10 (.indexAddr 86 (.tmp 8) (.tmp 9)) 0 (.pointer (some ((ad.add (k * 2)).add 0))) h17 (hr := r_index0 (n := rs.length) (c := c) (kd := .i64) (by kernel_rfl) (congrArg (Value.int .i64) hi) hlt (by kernel_rfl)) fun q18 h19 => ?_
    clear h17
    refine b0 (.F 3 11 0 0 1 <| .X 4 12 0 1 <| .C 5 2 <| .nil) [(2, .int .i64 x.2)] h19 ((Kw.nil hB9).cons (hE0.below hB9.bel)) fun q20 h21 => ?_
    clear h19
    refine wpO_end ?_
    refine then_n ?_
    refine c_ret (by kernel_rfl) ?_
    refine then_r ?_
    refine ret1 (t := 2) (v := .int .i64 x.2) h21 (by kernel_rfl) (by kernel_rfl) ?_
    exact ⟨ret_eq (congrArg (Value.int .i64) hf.symm), hB9.bel⟩
  have hp22 : ¬ ((0 : Int) ≤ idxR rs 0) := of_decide_eq_false hc14
  rcases firstE_of_idx rs with ⟨hi, hf⟩ | ⟨k, x, hlt, hi, hx, hf⟩
  rotate_left
  · exfalso; omega
  refine c_skip (by kernel_rfl) ?_
  refine then_n ?_
  refine kS ?_
  refine rp 1 ?_
  refine b0 (.C 0 2 <| .nil) [(2, .int .i64 0)] h13 (Kw.nil hB9) fun q23 h24 => ?_
  clear h13
  refine wpO_end ?_
  refine then_n ?_
  refine c_ret (by kernel_rfl) ?_
  refine ret1 (t := 2) (v := .int .i64 0) h24 (by kernel_rfl) (by kernel_rfl) ?_
  exact ⟨ret_eq (congrArg (Value.int .i64) hf.symm), hB9.bel⟩

end Go.Proofs.YtljegdokbifoiaaDoor.Af
