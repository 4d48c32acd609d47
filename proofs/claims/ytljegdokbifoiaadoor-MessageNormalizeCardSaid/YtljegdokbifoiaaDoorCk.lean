/- The checks of links. Short lists. -/
import Derived.Test.YtljegdokbifoiaaDoorCkp
namespace Go.Proofs.YtljegdokbifoiaaDoor.Af
open Go.RowKit
set_option maxHeartbeats 4000000 in
set_option maxRecDepth 20000 in
theorem c44 (i : Ins) (A : Option Addr) (c : Nat) (w : World) : Calls Tryd.prog 44 #[insV i A c] w fun e w' => e = .returned (.bool (assetB i)) ∧ Below w.heap.size w w' := by
  refine enter Tryd.func44 (by kernel_rfl) ?_ (by kernel_rfl)
  intro q0 h0
  replace h0 := h0.conv (l' := [(0, insV i A c)]) rfl
  have hB := Bx.refl w
  refine kS ?_
  refine rp 2 ?_
  refine sA 0 1 (fun b => .pointer (some ⟨b, 0, none⟩)) (.cells (insV i A c).cells 29 (0, 0)) h0 gok_none hB (fun _ _ hq => trivial) (fun b3 w4 hB5 hN q1 h2 => ?_)
  clear h0 hB hN
  refine b0 (.C 1 2 <| .nil) [(2, .bool false), (1, .pointer (some ⟨b3, 0, none⟩))] h2 (Kw.nil hB5) fun q6 h7 => ?_
  clear h2
  refine wpO_end ?_
  refine then_n ?_
  refine kS ?_
  refine kS ?_
  refine rp 3 ?_
  refine b0 (.C 0 3 <| .L 1 4 0 1 <| .E 2 5 (.bool (i.kind == (0 : Int))) <| .nil) [(5, .bool (i.kind == (0 : Int))), (2, .bool false), (1, .pointer (some ⟨b3, 0, none⟩))] h7 (Kw.nil hB5) fun q8 h9 => ?_
  clear h7
  refine wpO_end ?_
  refine then_n ?_
  refine kC 5 (i.kind == (0 : Int)) h9 (fun hc10 => ?_) (fun hc10 => ?_)
  ·
    refine kS ?_
    refine rp 4 ?_
    refine b0 (.C 0 6 <| .L 1 7 0 5 <| .E 2 8 (.bool (i.asset.toList == (⟨#[67, 65, 83, 72]⟩ : ByteArray).toList)) <| .C 3 2 <| .nil) [(2, .bool (i.asset.toList == (⟨#[67, 65, 83, 72]⟩ : ByteArray).toList)), (1, .pointer (some ⟨b3, 0, none⟩))] h9 (Kw.nil hB5) fun q11 h12 => ?_
    clear h9
    refine wpO_end ?_
    refine then_n ?_
    refine c_ret (by kernel_rfl) ?_
    refine then_r ?_
    refine ret1 (t := 2) (v := .bool (i.asset.toList == (⟨#[67, 65, 83, 72]⟩ : ByteArray).toList)) h12 (by kernel_rfl) (by kernel_rfl) ?_
    exact ⟨ret_eq (congrArg Value.bool ((cT hc10)).symm), hB5.bel⟩
  refine c_skip (by kernel_rfl) ?_
  refine then_n ?_
  refine kS ?_
  refine rp 4 ?_
  refine b0 (.C 0 9 <| .L 1 10 0 5 <| .nil) [(10, .string i.asset), (2, .bool false)] h9 (Kw.nil hB5) fun q13 h14 => ?_
  clear h9
  refine sC 2 11 h14 gok_none (c41_0 i.asset w4) ?_
  rintro _ w17 ⟨rfl, hb18⟩
  have hB19 := hB5.call hb18
  refine ⟨_, rfl, trivial, fun q15 h16 => ?_⟩
  clear h14 hB5 hb18
  refine b0 (.C 3 2 <| .nil) [(2, .bool (isinB i.asset))] h16 (Kw.nil hB19) fun q20 h21 => ?_
  clear h16
  refine wpO_end ?_
  refine then_n ?_
  refine c_ret (by kernel_rfl) ?_
  refine ret1 (t := 2) (v := .bool (isinB i.asset)) h21 (by kernel_rfl) (by kernel_rfl) ?_
  exact ⟨ret_eq (congrArg Value.bool ((cF hc10)).symm), hB19.bel⟩

set_option maxHeartbeats 4000000 in
set_option maxRecDepth 20000 in
theorem c49 (x : Lk) (t : Int) (r : ByteArray) (b : Nat) (w : World) (hE : El w ⟨b, 0, none⟩ [.int .i64 t, .string r]) : Calls Tryd.prog 49 #[.agg #[.int .i64 x.t, .string x.r], .pointer (some ⟨b, 0, none⟩)] w fun e w' => e = .returned (.bool (x.r.toList == r.toList)) ∧ Below w.heap.size w w' := by
  refine enter Tryd.func49 (by kernel_rfl) ?_ (by kernel_rfl)
  intro q0 h0
  replace h0 := h0.conv (l' := [(0, .agg #[.int .i64 x.t, .string x.r]), (1, .pointer (some ⟨b, 0, none⟩))]) rfl
  have hB := Bx.refl w
  refine kS ?_
  refine rp 2 ?_
  refine sA 0 2 (fun b => .pointer (some ⟨b, 0, none⟩)) (.cells #[.int .i64 x.t, .string x.r] 66 (0, 0)) h0 gok_none hB (fun _ _ hq => trivial) (fun b3 w4 hB5 hN q1 h2 => ?_)
  clear h0 hB hN
  refine b0 (.C 1 3 <| .nil) [(3, .bool false), (2, .pointer (some ⟨b3, 0, none⟩)), (1, .pointer (some ⟨b, 0, none⟩))] h2 (Kw.nil hB5) fun q6 h7 => ?_
  clear h2
  refine wpO_end ?_
  refine then_n ?_
  refine kS ?_
  refine rp 6 ?_
  refine b0 (.C 0 4 <| .L 1 5 0 1 <| .C 2 6 <| .X 3 7 0 1 <| .E 4 8 (.bool (x.r.toList == r.toList)) <| .C 5 3 <| .nil) [(3, .bool (x.r.toList == r.toList))] h7 ((Kw.nil hB5).cons (hE.below hB5.bel)) fun q8 h9 => ?_
  clear h7
  refine wpO_end ?_
  refine then_n ?_
  refine c_ret (by kernel_rfl) ?_
  refine ret1 (t := 3) (v := .bool (x.r.toList == r.toList)) h9 (by kernel_rfl) (by kernel_rfl) ?_
  exact ⟨ret_eq (rfl), hB5.bel⟩

set_option maxHeartbeats 4000000 in
set_option maxRecDepth 20000 in
theorem c62 (ls : List Lk) (A : Option Addr) (n c : Nat) (t : Int) (r : ByteArray) (b : Nat) (w : World) (hl : ls.length = n) (hn : n ≤ 4611686018427387904) (hr : Rd w A (lkc ls)) (hE : El w ⟨b, 0, none⟩ [.int .i64 t, .string r]) : Calls Tryd.prog 62 #[.slice A n c, .func (.func 49) #[] #[.pointer (some ⟨b, 0, none⟩)]] w (fun e w' => ∃ z : Int, e = .returned (.int .i64 z) ∧ decide ((0 : Int) ≤ z) = dupB ls r ∧ Below w.heap.size w w') := by
  refine enter Tryd.func62 (by kernel_rfl) ?_ (by kernel_rfl)
  intro q0 h0
  replace h0 := h0.conv (l' := [(0, .slice A n c), (1, .func (.func 49) #[] #[.pointer (some ⟨b, 0, none⟩)])]) rfl
  have hB := Bx.refl w
  refine kS ?_
  refine rp 1 ?_
  refine b0 (.C 0 4 <| .nil) [(4, .int .i64 0), (0, .slice A n c), (1, .func (.func 49) #[] #[.pointer (some ⟨b, 0, none⟩)])] h0 (Kw.nil hB) fun q1 h2 => ?_
  clear h0
  refine wpO_end ?_
  refine then_n ?_
  refine kS ?_
  refine kS ?_
  refine rp 3 ?_
  refine b0 (.C 0 6 <| .E 1 7 (.int .i64 ((n : Nat) : Int)) <| .C 2 8 <| .nil) [(8, .int .i64 0), (7, .int .i64 ((n : Nat) : Int)), (4, .int .i64 0), (0, .slice A n c), (1, .func (.func 49) #[] #[.pointer (some ⟨b, 0, none⟩)])] h2 (Kw.nil hB) fun q3 h4 => ?_
  clear h2
  refine wpO_end ?_
  refine then_n ?_
  refine c_block 0 (by kernel_rfl) ?_
  refine c_loop (by kernel_rfl) (fun qa qw => ∃ k : Nat, (k ≤ n) ∧ Fr 19 [(0, .slice A n c), (1, .func (.func 49) #[] #[.pointer (some ⟨b, 0, none⟩)]), (7, .int .i64 ((n : Nat) : Int)), (8, .int .i64 ((k : Nat) : Int))] qa ∧ Bx w [] qw ∧ (∀ (j : Nat) (y : Lk), j < k → ls[j]? = some y → (y.r.toList == r.toList) = false)) (fun qa _ => (((n : Int)) - intAt qa 8).toNat) ⟨0, Nat.zero_le _, h4.keep _ ⟨rfl, rfl, rfl, rfl, trivial⟩, hB, fun j _ hj => absurd hj (Nat.not_lt_zero _)⟩ ?_
  rintro q5 w6 ⟨k, hk9, h7, hB8, hx11⟩
  have hm10 := h7.int (k := 8) (kd := .i64) (z := ((k : Nat) : Int)) rfl
  clear h4 hB
  refine kS ?_
  refine rp 1 ?_
  refine b0 (.E 0 9 (.bool (decide (((k : Nat) : Int) < ((n : Nat) : Int)))) <| .nil) [(9, .bool (decide (((k : Nat) : Int) < ((n : Nat) : Int)))), (0, .slice A n c), (1, .func (.func 49) #[] #[.pointer (some ⟨b, 0, none⟩)]), (7, .int .i64 ((n : Nat) : Int)), (8, .int .i64 ((k : Nat) : Int))] h7 (Kw.nil hB8) fun q12 h13 => ?_
  clear h7
  refine wpO_end ?_
  refine then_n ?_
  refine kS ?_
  refine kC 9 (decide (((k : Nat) : Int) < ((n : Nat) : Int))) h13 (fun hc14 => ?_) (fun hc14 => ?_)
  ·
    have hp15 : (((k : Nat) : Int) < ((n : Nat) : Int)) := of_decide_eq_true hc14
    have hlt : k < n := by omega
    obtain ⟨x, hx⟩ : ∃ x, ls[k]? = some x := ⟨ls[k], List.getElem?_eq_getElem (by omega)⟩
    obtain ⟨ad, hA, hE0⟩ := hr.el (k * 2) [.int .i64 x.t, .string x.r] (by simp) (lkc_el ls k x hx)
    subst hA
    refine c_skip (by kernel_rfl) ?_
    refine then_n ?_
    refine kS ?_
    refine c_block 1 (by kernel_rfl) ?_
    refine kS ?_
    refine rp 2 ?_
    refine b0 (.C 0 10 <| .C 1 5 <| .nil) [(5, .int .i64 ((k : Nat) : Int)), (9, .bool (decide (((k : Nat) : Int) < ((n : Nat) : Int)))), (0, .slice (some ad) n c), (1, .func (.func 49) #[] #[.pointer (some ⟨b, 0, none⟩)]), (7, .int .i64 ((n : Nat) : Int)), (8, .int .i64 ((k : Nat) : Int))] h13 (Kw.nil hB8) fun q16 h17 => ?_
    clear h13
    refine wpO_end ?_
    refine then_n ?_
    refine kS ?_
    refine rp 6 ?_
    refine b0 (.C 0 11 <| .C 1 12 <| .C 2 13 <| .nil) [(13, .int .i64 ((k : Nat) : Int)), (12, .slice (some ad) n c), (11, .func (.func 49) #[] #[.pointer (some ⟨b, 0, none⟩)]), (5, .int .i64 ((k : Nat) : Int)), (9, .bool (decide (((k : Nat) : Int) < ((n : Nat) : Int)))), (0, .slice (some ad) n c), (1, .func (.func 49) #[] #[.pointer (some ⟨b, 0, none⟩)]), (7, .int .i64 ((n : Nat) : Int)), (8, .int .i64 ((k : Nat) : Int))] h17 (Kw.nil hB8) fun q18 h19 => ?_
    clear h17
    refine eE 3 14 (.indexAddr 27 (.tmp 12) (.tmp 13)) 0 (.pointer (some ((ad.add (k * 2)).add 0))) h19 (hr := r_index0 (n := n) (c := c) (kd := .i64) (by kernel_rfl) (by kernel_rfl) hlt (by kernel_rfl)) fun q20 h21 => ?_
    clear h19
    refine b0 (.Y 4 15 0 0 2 <| .nil) [(15, .agg #[.int .i64 x.t, .string x.r]), (11, .func (.func 49) #[] #[.pointer (some ⟨b, 0, none⟩)]), (5, .int .i64 ((k : Nat) : Int)), (9, .bool (decide (((k : Nat) : Int) < ((n : Nat) : Int)))), (0, .slice (some ad) n c), (1, .func (.func 49) #[] #[.pointer (some ⟨b, 0, none⟩)]), (7, .int .i64 ((n : Nat) : Int)), (8, .int .i64 ((k : Nat) : Int))] h21 ((Kw.nil hB8).cons (hE0.below hB8.bel)) fun q22 h23 => ?_
    clear h21
    refine sC 5 16 h23 gok_none (c49 x t r b w6 (hE.below hB8.bel)) ?_
    rintro _ w26 ⟨rfl, hb27⟩
    have hB28 := hB8.call hb27
    refine ⟨_, rfl, trivial, fun q24 h25 => ?_⟩
    clear h23 hB8 hb27
    refine wpO_end ?_
    have h29 := h25.keep [(16, .bool (x.r.toList == r.toList)), (5, .int .i64 ((k : Nat) : Int)), (9, .bool (decide (((k : Nat) : Int) < ((n : Nat) : Int)))), (0, .slice (some ad) n c), (1, .func (.func 49) #[] #[.pointer (some ⟨b, 0, none⟩)]), (7, .int .i64 ((n : Nat) : Int)), (8, .int .i64 ((k : Nat) : Int))] ⟨rfl, rfl, rfl, rfl, rfl, rfl, rfl, trivial⟩
    clear h25
    refine then_n ?_
    refine kC 16 (x.r.toList == r.toList) h29 (fun hc30 => ?_) (fun hc30 => ?_)
    ·
      refine kS ?_
      refine rp 2 ?_
      refine b0 (.C 0 17 <| .C 1 4 <| .nil) [(4, .int .i64 ((k : Nat) : Int)), (16, .bool (x.r.toList == r.toList)), (5, .int .i64 ((k : Nat) : Int)), (9, .bool (decide (((k : Nat) : Int) < ((n : Nat) : Int)))), (0, .slice (some ad) n c), (1, .func (.func 49) #[] #[.pointer (some ⟨b, 0, none⟩)]), (7, .int .i64 ((n : Nat) : Int)), (8, .int .i64 ((k : Nat) : Int))] h29 (Kw.nil hB28) fun q31 h32 => ?_
      clear h29
      refine wpO_end ?_
      refine then_n ?_
      refine c_ret (by kernel_rfl) ?_
      refine inB_r (then_r (then_r (inB_r (then_r ?_))))
      refine ret1 (t := 4) (v := .int .i64 ((k : Nat) : Int)) h32 (by kernel_rfl) (by kernel_rfl) ?_
      exact ⟨_, rfl, dup_yes hx hc30, hB28.bel⟩
    refine c_skip (by kernel_rfl) ?_
    refine inB_n ?_
    refine then_n ?_
    refine rp 2 ?_
    refine b0 (.E 0 18 (.int .i64 (IntKind.i64.wrap (((k : Nat) : Int) + 1))) <| .C 1 8 <| .nil) [(8, .int .i64 (IntKind.i64.wrap (((k : Nat) : Int) + 1))), (16, .bool (x.r.toList == r.toList)), (5, .int .i64 ((k : Nat) : Int)), (9, .bool (decide (((k : Nat) : Int) < ((n : Nat) : Int)))), (0, .slice (some ad) n c), (1, .func (.func 49) #[] #[.pointer (some ⟨b, 0, none⟩)]), (7, .int .i64 ((n : Nat) : Int))] h29 (Kw.nil hB28) fun q33 h34 => ?_
    clear h29
    refine wpO_end ?_
    have h35 := h34.keep [(0, .slice (some ad) n c), (1, .func (.func 49) #[] #[.pointer (some ⟨b, 0, none⟩)]), (7, .int .i64 ((n : Nat) : Int)), (8, .int .i64 (((k + 1) : Nat) : Int))] ⟨rfl, rfl, rfl, look_int rfl (wrap_succ (by have := hn; omega)), trivial⟩
    have hm36 := h35.int (k := 8) (kd := .i64) (z := (((k + 1) : Nat) : Int)) rfl
    refine then_n ⟨⟨k + 1, by omega, h35, hB28, fun j y hj hy => by rcases Nat.lt_succ_iff_lt_or_eq.1 hj with h' | rfl; exact hx11 j y h' hy; rw [hx] at hy; cases hy; exact hc30⟩, ?_⟩
    show (((n : Int)) - intAt _ 8).toNat < (((n : Int)) - intAt _ 8).toNat
    rw [hm10, hm36]; omega
  have hp37 : ¬ (((k : Nat) : Int) < ((n : Nat) : Int)) := of_decide_eq_false hc14
  refine c_exit 0 (by kernel_rfl) ?_
  refine then_e (then_e (inB_hit ?_))
  refine then_n ?_
  refine kS ?_
  refine rp 1 ?_
  refine b0 (.C 0 4 <| .nil) [(4, .int .i64 (-1))] h13 (Kw.nil hB8) fun q38 h39 => ?_
  clear h13
  refine wpO_end ?_
  refine then_n ?_
  refine c_ret (by kernel_rfl) ?_
  refine ret1 (t := 4) (v := .int .i64 (-1)) h39 (by kernel_rfl) (by kernel_rfl) ?_
  exact ⟨_, rfl, dup_no hx11 (by omega), hB8.bel⟩

set_option maxHeartbeats 4000000 in
set_option maxRecDepth 20000 in
theorem c48 (ls : List Lk) (A : Option Addr) (n c : Nat) (t : Int) (r : ByteArray) (b : Nat) (w : World) (hl : ls.length = n) (hn : n ≤ 4611686018427387904) (hr : Rd w A (lkc ls)) (hE : El w ⟨b, 0, none⟩ [.int .i64 t, .string r]) : Calls Tryd.prog 48 #[.slice A n c, .func (.func 49) #[] #[.pointer (some ⟨b, 0, none⟩)]] w fun e w' => e = .returned (.bool (dupB ls r)) ∧ Below w.heap.size w w' := by
  refine enter Tryd.func48 (by kernel_rfl) ?_ (by kernel_rfl)
  intro q0 h0
  replace h0 := h0.conv (l' := [(0, .slice A n c), (1, .func (.func 49) #[] #[.pointer (some ⟨b, 0, none⟩)])]) rfl
  have hB := Bx.refl w
  refine kS ?_
  refine rp 1 ?_
  refine b0 (.C 0 4 <| .nil) [(4, .bool false), (0, .slice A n c), (1, .func (.func 49) #[] #[.pointer (some ⟨b, 0, none⟩)])] h0 (Kw.nil hB) fun q1 h2 => ?_
  clear h0
  refine wpO_end ?_
  refine then_n ?_
  refine kS ?_
  refine rp 5 ?_
  refine b0 (.C 0 5 <| .C 1 6 <| .nil) [(6, .func (.func 49) #[] #[.pointer (some ⟨b, 0, none⟩)]), (5, .slice A n c), (4, .bool false)] h2 (Kw.nil hB) fun q3 h4 => ?_
  clear h2
  refine sC 2 7 h4 gok_none (c62 ls A n c t r b w hl hn (hr.below hB.bel) (hE.below hB.bel)) ?_
  rintro _ w8 ⟨z7, rfl, hz11, hb9⟩
  have hB10 := hB.call hb9
  refine ⟨_, rfl, trivial, fun q5 h6 => ?_⟩
  clear h4 hB hb9
  refine b0 (.E 3 8 (.bool (decide ((0 : Int) ≤ z7))) <| .C 4 4 <| .nil) [(4, .bool (decide ((0 : Int) ≤ z7)))] h6 (Kw.nil hB10) fun q12 h13 => ?_
  clear h6
  refine wpO_end ?_
  refine then_n ?_
  refine c_ret (by kernel_rfl) ?_
  refine ret1 (t := 4) (v := .bool (decide ((0 : Int) ≤ z7))) h13 (by kernel_rfl) (by kernel_rfl) ?_
  exact ⟨ret_eq (congrArg Value.bool hz11), hB10.bel⟩

end Go.Proofs.YtljegdokbifoiaaDoor.Af
