/- The first broken rule's error. The list is shorter than 2^62. -/
import Derived.Test.YtljegdokbifoiaaDoorMs
namespace Go.Proofs.YtljegdokbifoiaaDoor.Af
open Go.RowKit
set_option maxHeartbeats 4000000 in
set_option maxRecDepth 20000 in
theorem c60 (b : Bool) (e : Int) (w : World) : Calls Tryd.prog 60 #[.agg #[.bool b, .int .i64 e]] w fun e w' => e = .returned (.bool b) ∧ Below w.heap.size w w' := by
  refine enter Tryd.func60 (by kernel_rfl) ?_ (by kernel_rfl)
  intro q0 h0
  replace h0 := h0.conv (l' := [(0, .agg #[.bool b, .int .i64 e])]) rfl
  have hB := Bx.refl w
  refine c_seq (by kernel_rfl) ?_
  refine reg_plain [(0, false), (1, false)] (by kernel_rfl) (by kernel_rfl) ?_
  refine stA (i := 0) (d := 1) (op := Op.box 71 (Operand.tmp 0)) (ty := 0) (g := none) (mk := fun b => .pointer (some ⟨b, 0, none⟩)) (o := .cells #[.bool b, .int .i64 e] 71 (0, 0)) h0 (by kernel_rfl) (by kernel_rfl) (by kernel_rfl) gok_none (fun _ => by kernel_rfl) hB (fun _ _ hq => trivial) (fun b3 w4 hB5 hN q1 h2 => ?_)
  clear h0 hB hN
  refine eE 1 2 (.assign (.const (.bool false))) 4 (.bool false) h2 fun q6 h7 => ?_
  clear h2
  refine wpO_end ?_
  have h8 := h7.keep [(2, .bool false), (1, .pointer (some ⟨b3, 0, none⟩))] ⟨rfl, rfl, trivial⟩
  clear h7
  refine then_n ?_
  refine c_seq (by kernel_rfl) ?_
  refine reg_plain [(0, false), (1, false), (2, false)] (by kernel_rfl) (by kernel_rfl) ?_
  refine eE 0 3 (.fieldAddr 71 (.tmp 1) 0) 0 (.pointer (some ⟨b3, 0, none⟩)) h8 fun q9 h10 => ?_
  clear h8
  refine eE 1 4 (.load 4 (.tmp 3)) 4 (.bool b) h10 (hr := r_loadC (b := b3) (v := .bool b) hB5 0 0 (by kernel_rfl) (by kernel_rfl) (by kernel_rfl)) fun q11 h12 => ?_
  clear h10
  refine eE 2 2 (.assign (.tmp 4)) 4 (.bool b) h12 fun q13 h14 => ?_
  clear h12
  refine wpO_end ?_
  have h15 := h14.keep [(2, .bool b)] ⟨rfl, trivial⟩
  clear h14
  refine then_n ?_
  refine c_ret (by kernel_rfl) ?_
  refine ret1 (t := 2) (v := .bool b) h15 (by kernel_rfl) (by kernel_rfl) ?_
  exact ⟨ret_eq (rfl), hB5.bel⟩

set_option maxHeartbeats 4000000 in
set_option maxRecDepth 20000 in
theorem c59 (rs : List (Bool × Int)) (A : Option Addr) (c : Nat) (w : World) (hn : rs.length ≤ 4611686018427387904) (hr : Rd w A (rulec rs)) : Calls Tryd.prog 59 #[.slice A rs.length c, .func (.func 60) #[] #[]] w fun e w' => e = .returned (.int .i64 (idxR rs 0)) ∧ Below w.heap.size w w' := by
  refine enter Tryd.func59 (by kernel_rfl) ?_ (by kernel_rfl)
  intro q0 h0
  replace h0 := h0.conv (l' := [(0, .slice A rs.length c), (1, .func (.func 60) #[] #[])]) rfl
  have hB := Bx.refl w
  refine c_seq (by kernel_rfl) ?_
  refine reg_plain [(0, false)] (by kernel_rfl) (by kernel_rfl) ?_
  refine eE 0 4 (.assign (.const (.int .i64 0))) 3 (.int .i64 0) h0 fun q1 h2 => ?_
  clear h0
  refine wpO_end ?_
  refine then_n ?_
  refine c_seq (by kernel_rfl) ?_
  refine c_seq (by kernel_rfl) ?_
  refine reg_plain [(0, false), (1, false), (2, false)] (by kernel_rfl) (by kernel_rfl) ?_
  refine eE 0 6 (.move (.tmp 0)) 86 (.slice A rs.length c) h2 fun q3 h4 => ?_
  clear h2
  refine eE 1 7 (.call { callee := .builtin .len, args := #[.tmp 6], argTypes := #[86] }) 3 (.int .i64 ((rs.length : Nat) : Int)) h4 fun q5 h6 => ?_
  clear h4
  refine eE 2 8 (.move (.const (.int .i64 0))) 3 (.int .i64 0) h6 fun q7 h8 => ?_
  clear h6
  refine wpO_end ?_
  have h9 := h8.keep [(8, .int .i64 0), (7, .int .i64 ((rs.length : Nat) : Int)), (4, .int .i64 0), (0, .slice A rs.length c), (1, .func (.func 60) #[] #[])] ⟨rfl, rfl, rfl, rfl, rfl, trivial⟩
  clear h8
  refine then_n ?_
  refine c_block 0 (by kernel_rfl) ?_
  refine c_loop (by kernel_rfl) (fun qa qw => ∃ k : Nat, (k ≤ rs.length) ∧ Fr 19 [(7, .int .i64 ((rs.length : Nat) : Int)), (8, .int .i64 ((k : Nat) : Int)), (1, .func (.func 60) #[] #[]), (0, .slice A rs.length c)] qa ∧ Bx w [] qw ∧ (∀ (j : Nat) (y : Bool × Int), j < k → rs[j]? = some y → y.1 = false)) (fun qa _ => (((rs.length : Int)) - intAt qa 8).toNat) ⟨0, Nat.zero_le _, h9.keep _ ⟨rfl, rfl, rfl, rfl, trivial⟩, hB, fun j y hj => absurd hj (Nat.not_lt_zero _)⟩ ?_
  rintro q10 w11 ⟨k, hk14, h12, hB13, hx16⟩
  have hm15 := h12.int (k := 8) (kd := .i64) (z := ((k : Nat) : Int)) rfl
  clear h9 hB
  refine c_seq (by kernel_rfl) ?_
  refine reg_plain [(0, false)] (by kernel_rfl) (by kernel_rfl) ?_
  refine eE 0 9 (.binOp .lss 3 (.tmp 8) (.tmp 7) 3) 0 (.bool (decide (((k : Nat) : Int) < ((rs.length : Nat) : Int)))) h12 fun q17 h18 => ?_
  clear h12
  refine wpO_end ?_
  refine then_n ?_
  refine c_seq (by kernel_rfl) ?_
  refine c_cond (t := 9) (b := decide (((k : Nat) : Int) < ((rs.length : Nat) : Int))) h18 (by kernel_rfl) (by kernel_rfl) (fun hc19 => ?_) (fun hc19 => ?_)
  ·
    have hp20 : (((k : Nat) : Int) < ((rs.length : Nat) : Int)) := of_decide_eq_true hc19
    have hlt : k < rs.length := by omega
    obtain ⟨x, hx⟩ : ∃ x, rs[k]? = some x := ⟨rs[k], List.getElem?_eq_getElem hlt⟩
    obtain ⟨ad, hA, hE0⟩ := hr.el (k * 2) [.bool x.1, .int .i64 x.2] (by simp) (rulec_get rs k x hx)
    subst hA
    refine c_skip (by kernel_rfl) ?_
    refine then_n ?_
    refine c_seq (by kernel_rfl) ?_
    refine c_block 1 (by kernel_rfl) ?_
    refine c_seq (by kernel_rfl) ?_
    refine reg_plain [(0, false), (1, false)] (by kernel_rfl) (by kernel_rfl) ?_
    refine eE 0 10 (.move (.tmp 8)) 3 (.int .i64 ((k : Nat) : Int)) h18 fun q21 h22 => ?_
    clear h18
    refine eE 1 5 (.assign (.tmp 10)) 3 (.int .i64 ((k : Nat) : Int)) h22 fun q23 h24 => ?_
    clear h22
    refine wpO_end ?_
    refine then_n ?_
    refine c_seq (by kernel_rfl) ?_
    refine reg_plain [(0, false), (1, false), (2, false), (3, false), (4, false), (5, false)] (by kernel_rfl) (by kernel_rfl) ?_
    refine eE 0 11 (.move (.tmp 1)) 88 (.func (.func 60) #[] #[]) h24 fun q25 h26 => ?_
    clear h24
    refine eE 1 12 (.move (.tmp 0)) 86 (.slice (some ad) rs.length c) h26 fun q27 h28 => ?_
    clear h26
    refine eE 2 13 (.move (.tmp 5)) 3 (.int .i64 ((k : Nat) : Int)) h28 fun q29 h30 => ?_
    clear h28
    refine eE 3 14 (.indexAddr 86 (.tmp 12) (.tmp 13)) 0 (.pointer (some ((ad.add (k * 2)).add 0))) h30 (hr := r_index0 (n := rs.length) (c := c) (kd := .i64) (by kernel_rfl) (by kernel_rfl) hlt (by kernel_rfl)) fun q31 h32 => ?_
    clear h30
    refine eE 4 15 (.load 71 (.tmp 14)) 71 (.agg #[.bool x.1, .int .i64 x.2]) h32 (hr := r_loadE (o := 0) (vs := [.bool x.1, .int .i64 x.2]) (hE0.below hB13.bel) (by kernel_rfl) (by kernel_rfl) (by kernel_rfl)) fun q33 h34 => ?_
    clear h32
    refine stC (i := 5) (d := 16) (op := Op.call { callee := Callee.value (Operand.tmp 11), args := #[Operand.tmp 15], argTypes := #[71] }) (ty := 4) (g := none) (f := 60) (args := #[.agg #[.bool x.1, .int .i64 x.2]]) (w1 := w11) h34 (by kernel_rfl) (by kernel_rfl) (by kernel_rfl) gok_none (by kernel_rfl) (c60 x.1 x.2 w11) ?_
    rintro _ w37 ⟨rfl, hb38⟩
    have hB39 := hB13.call hb38
    refine ⟨_, rfl, trivial, fun q35 h36 => ?_⟩
    clear h34 hB13 hb38
    refine wpO_end ?_
    refine then_n ?_
    refine c_cond (t := 16) (b := x.1) h36 (by kernel_rfl) (by kernel_rfl) (fun hc40 => ?_) (fun hc40 => ?_)
    ·
      refine c_seq (by kernel_rfl) ?_
      refine reg_plain [(0, false), (1, false)] (by kernel_rfl) (by kernel_rfl) ?_
      refine eE 0 17 (.move (.tmp 5)) 3 (.int .i64 ((k : Nat) : Int)) h36 fun q41 h42 => ?_
      clear h36
      refine eE 1 4 (.assign (.tmp 17)) 3 (.int .i64 ((k : Nat) : Int)) h42 fun q43 h44 => ?_
      clear h42
      refine wpO_end ?_
      refine then_n ?_
      refine c_ret (by kernel_rfl) ?_
      refine inB_r (then_r (then_r (inB_r (then_r ?_))))
      refine ret1 (t := 4) (v := .int .i64 ((k : Nat) : Int)) h44 (by kernel_rfl) (by kernel_rfl) ?_
      exact ⟨ret_eq (congrArg (Value.int .i64) ((idxR_some rs 0 k x hx16 hx hc40).trans (by rw [Nat.zero_add])).symm), hB39.bel⟩
    ·
      refine c_skip (by kernel_rfl) ?_
      refine inB_n ?_
      refine then_n ?_
      refine reg_plain [(0, false), (1, false)] (by kernel_rfl) (by kernel_rfl) ?_
      refine eE 0 18 (.binOp .add 3 (.tmp 8) (.const (.int .i64 1)) 3) 3 (.int .i64 (IntKind.i64.wrap (((k : Nat) : Int) + 1))) h36 fun q45 h46 => ?_
      clear h36
      refine eE 1 8 (.move (.tmp 18)) 3 (.int .i64 (IntKind.i64.wrap (((k : Nat) : Int) + 1))) h46 fun q47 h48 => ?_
      clear h46
      refine wpO_end ?_
      have h49 := h48.keep [(8, .int .i64 (IntKind.i64.wrap (((k : Nat) : Int) + 1))), (18, .int .i64 (IntKind.i64.wrap (((k : Nat) : Int) + 1))), (16, .bool x.1), (15, .agg #[.bool x.1, .int .i64 x.2]), (14, .pointer (some ((ad.add (k * 2)).add 0))), (13, .int .i64 ((k : Nat) : Int)), (12, .slice (some ad) rs.length c), (11, .func (.func 60) #[] #[]), (5, .int .i64 ((k : Nat) : Int)), (10, .int .i64 ((k : Nat) : Int)), (9, .bool (decide (((k : Nat) : Int) < ((rs.length : Nat) : Int)))), (7, .int .i64 ((rs.length : Nat) : Int)), (1, .func (.func 60) #[] #[]), (0, .slice (some ad) rs.length c)] ⟨rfl, rfl, rfl, rfl, rfl, rfl, rfl, rfl, rfl, rfl, rfl, rfl, rfl, rfl, trivial⟩
      clear h48
      have h50 := h49.keep [(7, .int .i64 ((rs.length : Nat) : Int)), (8, .int .i64 (((k + 1) : Nat) : Int)), (1, .func (.func 60) #[] #[]), (0, .slice (some ad) rs.length c)] ⟨rfl, look_int rfl (wrap_succ (by have := hn; omega)), rfl, rfl, trivial⟩
      have hm51 := h50.int (k := 8) (kd := .i64) (z := (((k + 1) : Nat) : Int)) rfl
      refine then_n ⟨⟨k + 1, by omega, h50, hB39, fun j y hj hy => by rcases Nat.lt_succ_iff_lt_or_eq.1 hj with h' | rfl; exact hx16 j y h' hy; rw [hx] at hy; cases hy; exact hc40⟩, ?_⟩
      show (((rs.length : Int)) - intAt _ 8).toNat < (((rs.length : Int)) - intAt _ 8).toNat
      rw [hm15, hm51]; omega
  ·
    have hp52 : ¬ (((k : Nat) : Int) < ((rs.length : Nat) : Int)) := of_decide_eq_false hc19
    refine c_exit 0 (by kernel_rfl) ?_
    refine then_e (then_e (inB_hit ?_))
    refine then_n ?_
    refine c_seq (by kernel_rfl) ?_
    refine reg_plain [(0, false)] (by kernel_rfl) (by kernel_rfl) ?_
    refine eE 0 4 (.assign (.const (.int .i64 (-1)))) 3 (.int .i64 (-1)) h18 fun q53 h54 => ?_
    clear h18
    refine wpO_end ?_
    have h55 := h54.keep [(4, .int .i64 (-1))] ⟨rfl, trivial⟩
    clear h54
    refine then_n ?_
    refine c_ret (by kernel_rfl) ?_
    refine ret1 (t := 4) (v := .int .i64 (-1)) h55 (by kernel_rfl) (by kernel_rfl) ?_
    exact ⟨ret_eq (congrArg (Value.int .i64) (idxR_none rs 0 fun j y hj => hx16 j y (by have := (List.getElem?_eq_some_iff.1 hj).1; omega) hj).symm), hB13.bel⟩

set_option maxHeartbeats 4000000 in
set_option maxRecDepth 20000 in
theorem c39 (rs : List (Bool × Int)) (A : Option Addr) (c : Nat) (w : World) (hn : rs.length ≤ 4611686018427387904) (hr : Rd w A (rulec rs)) : Calls Tryd.prog 39 #[.slice A rs.length c] w fun e w' => e = .returned (.int .i64 (firstE rs)) ∧ Below w.heap.size w w' := by
  refine enter Tryd.func39 (by kernel_rfl) ?_ (by kernel_rfl)
  intro q0 h0
  replace h0 := h0.conv (l' := [(0, .slice A rs.length c)]) rfl
  have hB := Bx.refl w
  refine c_seq (by kernel_rfl) ?_
  refine reg_plain [(0, false)] (by kernel_rfl) (by kernel_rfl) ?_
  refine eE 0 2 (.assign (.const (.int .i64 0))) 26 (.int .i64 0) h0 fun q1 h2 => ?_
  clear h0
  refine wpO_end ?_
  refine then_n ?_
  refine c_seq (by kernel_rfl) ?_
  refine c_seq (by kernel_rfl) ?_
  refine reg_plain [(0, false), (1, false), (2, false)] (by kernel_rfl) (by kernel_rfl) ?_
  refine eE 0 4 (.move (.tmp 0)) 86 (.slice A rs.length c) h2 fun q3 h4 => ?_
  clear h2
  refine stC (i := 1) (d := 5) (op := Op.call { callee := Callee.value (Operand.func 59), args := #[Operand.tmp 4, Operand.func 60], argTypes := #[86, 88] }) (ty := 3) (g := none) (f := 59) (args := #[.slice A rs.length c, .func (.func 60) #[] #[]]) (w1 := w) h4 (by kernel_rfl) (by kernel_rfl) (by kernel_rfl) gok_none (by kernel_rfl) (c59 rs A c w hn (hr.below hB.bel)) ?_
  rintro _ w7 ⟨rfl, hb8⟩
  have hB9 := hB.call hb8
  refine ⟨_, rfl, trivial, fun q5 h6 => ?_⟩
  clear h4 hB hb8
  refine eE 2 3 (.assign (.tmp 5)) 3 (.int .i64 (idxR rs 0)) h6 fun q10 h11 => ?_
  clear h6
  refine wpO_end ?_
  have h12 := h11.keep [(3, .int .i64 (idxR rs 0)), (2, .int .i64 0), (0, .slice A rs.length c)] ⟨rfl, rfl, rfl, trivial⟩
  clear h11
  refine then_n ?_
  refine c_seq (by kernel_rfl) ?_
  refine reg_plain [(0, false), (1, false)] (by kernel_rfl) (by kernel_rfl) ?_
  refine eE 0 6 (.move (.tmp 3)) 3 (.int .i64 (idxR rs 0)) h12 fun q13 h14 => ?_
  clear h12
  refine eE 1 7 (.binOp .geq 3 (.tmp 6) (.const (.int .i64 0)) 3) 4 (.bool (decide ((0 : Int) ≤ idxR rs 0))) h14 fun q15 h16 => ?_
  clear h14
  refine wpO_end ?_
  have h17 := h16.keep [(7, .bool (decide ((0 : Int) ≤ idxR rs 0))), (3, .int .i64 (idxR rs 0)), (2, .int .i64 0), (0, .slice A rs.length c)] ⟨rfl, rfl, rfl, rfl, trivial⟩
  clear h16
  refine then_n ?_
  refine c_cond (t := 7) (b := decide ((0 : Int) ≤ idxR rs 0)) h17 (by kernel_rfl) (by kernel_rfl) (fun hc18 => ?_) (fun hc18 => ?_)
  ·
    have hp19 : ((0 : Int) ≤ idxR rs 0) := of_decide_eq_true hc18
    rcases firstE_of_idx rs with ⟨hi, hf⟩ | ⟨k, x, hlt, hi, hx, hf⟩
    · exfalso; omega
    obtain ⟨ad, hA, hE0⟩ := hr.el (k * 2) [.bool x.1, .int .i64 x.2] (by simp) (rulec_get rs k x hx)
    subst hA
    refine c_seq (by kernel_rfl) ?_
    refine reg_plain [(0, false), (1, false), (2, false), (3, false), (4, false), (5, false)] (by kernel_rfl) (by kernel_rfl) ?_
    refine eE 0 8 (.move (.tmp 0)) 86 (.slice (some ad) rs.length c) h17 fun q20 h21 => ?_
    clear h17
    refine eE 1 9 (.move (.tmp 3)) 3 (.int .i64 (idxR rs 0)) h21 fun q22 h23 => ?_
    clear h21
    refine eE 2 10 (.indexAddr 86 (.tmp 8) (.tmp 9)) 0 (.pointer (some ((ad.add (k * 2)).add 0))) h23 (hr := r_index0 (n := rs.length) (c := c) (kd := .i64) (by kernel_rfl) (congrArg (Value.int .i64) hi) hlt (by kernel_rfl)) fun q24 h25 => ?_
    clear h23
    refine eE 3 11 (.fieldAddr 71 (.tmp 10) 1) 0 (.pointer (some ((ad.add (k * 2)).add 1))) h25 (hr := r_fieldAddr (ad := ad.add (k * 2)) (o := 0) (off := 1) (by kernel_rfl) (by kernel_rfl)) fun q26 h27 => ?_
    clear h25
    refine eE 4 12 (.load 26 (.tmp 11)) 26 (.int .i64 x.2) h27 (hr := r_loadF (o := 1) (v := .int .i64 x.2) (hE0.below hB9.bel) (by kernel_rfl) (by kernel_rfl) (by kernel_rfl)) fun q28 h29 => ?_
    clear h27
    refine eE 5 2 (.assign (.tmp 12)) 26 (.int .i64 x.2) h29 fun q30 h31 => ?_
    clear h29
    refine wpO_end ?_
    have h32 := h31.keep [(2, .int .i64 x.2)] ⟨rfl, trivial⟩
    clear h31
    refine then_n ?_
    refine c_ret (by kernel_rfl) ?_
    refine then_r ?_
    refine ret1 (t := 2) (v := .int .i64 x.2) h32 (by kernel_rfl) (by kernel_rfl) ?_
    exact ⟨ret_eq (congrArg (Value.int .i64) hf.symm), hB9.bel⟩
  ·
    have hp33 : ¬ ((0 : Int) ≤ idxR rs 0) := of_decide_eq_false hc18
    rcases firstE_of_idx rs with ⟨hi, hf⟩ | ⟨k, x, hlt, hi, hx, hf⟩
    rotate_left
    · exfalso; omega
    refine c_skip (by kernel_rfl) ?_
    refine then_n ?_
    refine c_seq (by kernel_rfl) ?_
    refine reg_plain [(0, false)] (by kernel_rfl) (by kernel_rfl) ?_
    refine eE 0 2 (.assign (.const (.int .i64 0))) 26 (.int .i64 0) h17 fun q34 h35 => ?_
    clear h17
    refine wpO_end ?_
    have h36 := h35.keep [(2, .int .i64 0)] ⟨rfl, trivial⟩
    clear h35
    refine then_n ?_
    refine c_ret (by kernel_rfl) ?_
    refine ret1 (t := 2) (v := .int .i64 0) h36 (by kernel_rfl) (by kernel_rfl) ?_
    exact ⟨ret_eq (congrArg (Value.int .i64) hf.symm), hB9.bel⟩

end Go.Proofs.YtljegdokbifoiaaDoor.Af
