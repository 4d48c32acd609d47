/- The checks of links. Short lists. -/
import Derived.Test.YtljegdokbifoiaaDoorCkp
namespace Go.Proofs.YtljegdokbifoiaaDoor.Af
open Go.RowKit
set_option maxHeartbeats 4000000 in
set_option maxRecDepth 20000 in
theorem c44 (i : Ins) (A : Option Addr) (c : Nat) (w : World) : Calls Tryd.prog 44 #[.agg #[.string i.ref, .int .i64 i.kind, .string i.sender, .string i.cpty, .int .i64 i.side, .string i.asset, .int .i64 i.qty, .int .i64 i.amt, .int .i64 i.tday, .int .i64 i.sday, .int .i64 i.prio, .bool i.part, .int .i64 i.minlot, .bool i.hold, .bool i.resv, .slice A i.links.length c]] w fun e w' => e = .returned (.bool (assetB i)) ∧ Below w.heap.size w w' := by
  refine enter Tryd.func44 (by kernel_rfl) ?_ (by kernel_rfl)
  intro q0 h0
  replace h0 := h0.conv (l' := [(0, .agg #[.string i.ref, .int .i64 i.kind, .string i.sender, .string i.cpty, .int .i64 i.side, .string i.asset, .int .i64 i.qty, .int .i64 i.amt, .int .i64 i.tday, .int .i64 i.sday, .int .i64 i.prio, .bool i.part, .int .i64 i.minlot, .bool i.hold, .bool i.resv, .slice A i.links.length c])]) rfl
  have hB := Bx.refl w
  refine c_seq (by kernel_rfl) ?_
  refine reg_plain [(0, false), (1, false)] (by kernel_rfl) (by kernel_rfl) ?_
  refine stA (i := 0) (d := 1) (op := Op.box 29 (Operand.tmp 0)) (ty := 0) (g := none) (mk := fun b => .pointer (some ⟨b, 0, none⟩)) (o := .cells #[.string i.ref, .int .i64 i.kind, .string i.sender, .string i.cpty, .int .i64 i.side, .string i.asset, .int .i64 i.qty, .int .i64 i.amt, .int .i64 i.tday, .int .i64 i.sday, .int .i64 i.prio, .bool i.part, .int .i64 i.minlot, .bool i.hold, .bool i.resv, .slice A i.links.length c] 29 (0, 0)) h0 (by kernel_rfl) (by kernel_rfl) (by kernel_rfl) gok_none (fun _ => by kernel_rfl) hB (fun _ _ hq => trivial) (fun b3 w4 hB5 hN q1 h2 => ?_)
  clear h0 hB hN
  refine eE 1 2 (.assign (.const (.bool false))) 4 (.bool false) h2 fun q6 h7 => ?_
  clear h2
  refine wpO_end ?_
  have h8 := h7.keep [(2, .bool false), (1, .pointer (some ⟨b3, 0, none⟩))] ⟨rfl, rfl, trivial⟩
  clear h7
  refine then_n ?_
  refine c_seq (by kernel_rfl) ?_
  refine c_seq (by kernel_rfl) ?_
  refine reg_plain [(0, false), (1, false), (2, false)] (by kernel_rfl) (by kernel_rfl) ?_
  refine eE 0 3 (.fieldAddr 29 (.tmp 1) 1) 0 (.pointer (some ⟨b3, 1, none⟩)) h8 fun q9 h10 => ?_
  clear h8
  refine eE 1 4 (.load 3 (.tmp 3)) 3 (.int .i64 i.kind) h10 (hr := r_loadC (b := b3) (v := .int .i64 i.kind) hB5 0 1 (by kernel_rfl) (by kernel_rfl) (by kernel_rfl)) fun q11 h12 => ?_
  clear h10
  refine eE 2 5 (.binOp .eql 3 (.tmp 4) (.const (.int .i64 0)) 3) 4 (.bool (i.kind == (0 : Int))) h12 fun q13 h14 => ?_
  clear h12
  refine wpO_end ?_
  have h15 := h14.keep [(5, .bool (i.kind == (0 : Int))), (2, .bool false), (1, .pointer (some ⟨b3, 0, none⟩))] ⟨rfl, rfl, rfl, trivial⟩
  clear h14
  refine then_n ?_
  refine c_cond (t := 5) (b := (i.kind == (0 : Int))) h15 (by kernel_rfl) (by kernel_rfl) (fun hc16 => ?_) (fun hc16 => ?_)
  ·
    refine c_seq (by kernel_rfl) ?_
    refine reg_plain [(0, false), (1, false), (2, false), (3, false)] (by kernel_rfl) (by kernel_rfl) ?_
    refine eE 0 6 (.fieldAddr 29 (.tmp 1) 5) 0 (.pointer (some ⟨b3, 5, none⟩)) h15 fun q17 h18 => ?_
    clear h15
    refine eE 1 7 (.load 9 (.tmp 6)) 9 (.string i.asset) h18 (hr := r_loadC (b := b3) (v := .string i.asset) hB5 0 5 (by kernel_rfl) (by kernel_rfl) (by kernel_rfl)) fun q19 h20 => ?_
    clear h18
    refine eE 2 8 (.binOp .eql 9 (.tmp 7) (.const (.string { data := #[67, 65, 83, 72] })) 9) 4 (.bool (i.asset.toList == (⟨#[67, 65, 83, 72]⟩ : ByteArray).toList)) h20 fun q21 h22 => ?_
    clear h20
    refine eE 3 2 (.assign (.tmp 8)) 4 (.bool (i.asset.toList == (⟨#[67, 65, 83, 72]⟩ : ByteArray).toList)) h22 fun q23 h24 => ?_
    clear h22
    refine wpO_end ?_
    have h25 := h24.keep [(2, .bool (i.asset.toList == (⟨#[67, 65, 83, 72]⟩ : ByteArray).toList)), (1, .pointer (some ⟨b3, 0, none⟩))] ⟨rfl, rfl, trivial⟩
    clear h24
    refine then_n ?_
    refine c_ret (by kernel_rfl) ?_
    refine then_r ?_
    refine ret1 (t := 2) (v := .bool (i.asset.toList == (⟨#[67, 65, 83, 72]⟩ : ByteArray).toList)) h25 (by kernel_rfl) (by kernel_rfl) ?_
    exact ⟨ret_eq (congrArg Value.bool ((cT hc16)).symm), hB5.bel⟩
  ·
    refine c_skip (by kernel_rfl) ?_
    refine then_n ?_
    refine c_seq (by kernel_rfl) ?_
    refine reg_plain [(0, false), (1, false), (2, false), (3, false)] (by kernel_rfl) (by kernel_rfl) ?_
    refine eE 0 9 (.fieldAddr 29 (.tmp 1) 5) 0 (.pointer (some ⟨b3, 5, none⟩)) h15 fun q26 h27 => ?_
    clear h15
    refine eE 1 10 (.load 9 (.tmp 9)) 9 (.string i.asset) h27 (hr := r_loadC (b := b3) (v := .string i.asset) hB5 0 5 (by kernel_rfl) (by kernel_rfl) (by kernel_rfl)) fun q28 h29 => ?_
    clear h27
    refine stC (i := 2) (d := 11) (op := Op.call { callee := Callee.value (Operand.func 41), args := #[Operand.const (Value.int IntKind.i64 0), Operand.tmp 10], argTypes := #[3, 9] }) (ty := 4) (g := none) (f := 41) (args := #[.int .i64 0, .string i.asset]) (w1 := w4) h29 (by kernel_rfl) (by kernel_rfl) (by kernel_rfl) gok_none (by kernel_rfl) (c41_0 i.asset w4) ?_
    rintro _ w32 ⟨rfl, hb33⟩
    have hB34 := hB5.call hb33
    refine ⟨_, rfl, trivial, fun q30 h31 => ?_⟩
    clear h29 hB5 hb33
    refine eE 3 2 (.assign (.tmp 11)) 4 (.bool (isinB i.asset)) h31 fun q35 h36 => ?_
    clear h31
    refine wpO_end ?_
    have h37 := h36.keep [(2, .bool (isinB i.asset))] ⟨rfl, trivial⟩
    clear h36
    refine then_n ?_
    refine c_ret (by kernel_rfl) ?_
    refine ret1 (t := 2) (v := .bool (isinB i.asset)) h37 (by kernel_rfl) (by kernel_rfl) ?_
    exact ⟨ret_eq (congrArg Value.bool ((cF hc16)).symm), hB34.bel⟩

set_option maxHeartbeats 4000000 in
set_option maxRecDepth 20000 in
theorem c49 (x : Lk) (t : Int) (r : ByteArray) (b : Nat) (w : World) (hE : El w ⟨b, 0, none⟩ [.int .i64 t, .string r]) : Calls Tryd.prog 49 #[.agg #[.int .i64 x.t, .string x.r], .pointer (some ⟨b, 0, none⟩)] w fun e w' => e = .returned (.bool (x.r.toList == r.toList)) ∧ Below w.heap.size w w' := by
  refine enter Tryd.func49 (by kernel_rfl) ?_ (by kernel_rfl)
  intro q0 h0
  replace h0 := h0.conv (l' := [(0, .agg #[.int .i64 x.t, .string x.r]), (1, .pointer (some ⟨b, 0, none⟩))]) rfl
  have hB := Bx.refl w
  refine c_seq (by kernel_rfl) ?_
  refine reg_plain [(0, false), (1, false)] (by kernel_rfl) (by kernel_rfl) ?_
  refine stA (i := 0) (d := 2) (op := Op.box 66 (Operand.tmp 0)) (ty := 0) (g := none) (mk := fun b => .pointer (some ⟨b, 0, none⟩)) (o := .cells #[.int .i64 x.t, .string x.r] 66 (0, 0)) h0 (by kernel_rfl) (by kernel_rfl) (by kernel_rfl) gok_none (fun _ => by kernel_rfl) hB (fun _ _ hq => trivial) (fun b3 w4 hB5 hN q1 h2 => ?_)
  clear h0 hB hN
  refine eE 1 3 (.assign (.const (.bool false))) 4 (.bool false) h2 fun q6 h7 => ?_
  clear h2
  refine wpO_end ?_
  have h8 := h7.keep [(3, .bool false), (2, .pointer (some ⟨b3, 0, none⟩)), (1, .pointer (some ⟨b, 0, none⟩))] ⟨rfl, rfl, rfl, trivial⟩
  clear h7
  refine then_n ?_
  refine c_seq (by kernel_rfl) ?_
  refine reg_plain [(0, false), (1, false), (2, false), (3, false), (4, false), (5, false)] (by kernel_rfl) (by kernel_rfl) ?_
  refine eE 0 4 (.fieldAddr 66 (.tmp 2) 1) 0 (.pointer (some ⟨b3, 1, none⟩)) h8 fun q9 h10 => ?_
  clear h8
  refine eE 1 5 (.load 9 (.tmp 4)) 9 (.string x.r) h10 (hr := r_loadC (b := b3) (v := .string x.r) hB5 0 1 (by kernel_rfl) (by kernel_rfl) (by kernel_rfl)) fun q11 h12 => ?_
  clear h10
  refine eE 2 6 (.fieldAddr 66 (.tmp 1) 1) 0 (.pointer (some ⟨b, 1, none⟩)) h12 fun q13 h14 => ?_
  clear h12
  refine eE 3 7 (.load 9 (.tmp 6)) 9 (.string r) h14 (hr := r_loadF (ad := ⟨b, 0, none⟩) (o := 1) (v := .string r) (vs := [.int .i64 t, .string r]) (hE.below hB5.bel) (by kernel_rfl) (by kernel_rfl) (by kernel_rfl)) fun q15 h16 => ?_
  clear h14
  refine eE 4 8 (.binOp .eql 9 (.tmp 5) (.tmp 7) 9) 4 (.bool (x.r.toList == r.toList)) h16 fun q17 h18 => ?_
  clear h16
  refine eE 5 3 (.assign (.tmp 8)) 4 (.bool (x.r.toList == r.toList)) h18 fun q19 h20 => ?_
  clear h18
  refine wpO_end ?_
  have h21 := h20.keep [(3, .bool (x.r.toList == r.toList))] ⟨rfl, trivial⟩
  clear h20
  refine then_n ?_
  refine c_ret (by kernel_rfl) ?_
  refine ret1 (t := 3) (v := .bool (x.r.toList == r.toList)) h21 (by kernel_rfl) (by kernel_rfl) ?_
  exact ⟨ret_eq (rfl), hB5.bel⟩

set_option maxHeartbeats 4000000 in
set_option maxRecDepth 20000 in
theorem c62 (ls : List Lk) (A : Option Addr) (n c : Nat) (t : Int) (r : ByteArray) (b : Nat) (w : World) (hl : ls.length = n) (hn : n ≤ 4611686018427387904) (hr : Rd w A (lkc ls)) (hE : El w ⟨b, 0, none⟩ [.int .i64 t, .string r]) : Calls Tryd.prog 62 #[.slice A n c, .func (.func 49) #[] #[.pointer (some ⟨b, 0, none⟩)]] w (fun e w' => ∃ z : Int, e = .returned (.int .i64 z) ∧ decide ((0 : Int) ≤ z) = dupB ls r ∧ Below w.heap.size w w') := by
  refine enter Tryd.func62 (by kernel_rfl) ?_ (by kernel_rfl)
  intro q0 h0
  replace h0 := h0.conv (l' := [(0, .slice A n c), (1, .func (.func 49) #[] #[.pointer (some ⟨b, 0, none⟩)])]) rfl
  have hB := Bx.refl w
  refine c_seq (by kernel_rfl) ?_
  refine reg_plain [(0, false)] (by kernel_rfl) (by kernel_rfl) ?_
  refine eE 0 4 (.assign (.const (.int .i64 0))) 3 (.int .i64 0) h0 fun q1 h2 => ?_
  clear h0
  refine wpO_end ?_
  refine then_n ?_
  refine c_seq (by kernel_rfl) ?_
  refine c_seq (by kernel_rfl) ?_
  refine reg_plain [(0, false), (1, false), (2, false)] (by kernel_rfl) (by kernel_rfl) ?_
  refine eE 0 6 (.move (.tmp 0)) 27 (.slice A n c) h2 fun q3 h4 => ?_
  clear h2
  refine eE 1 7 (.call { callee := .builtin .len, args := #[.tmp 6], argTypes := #[27] }) 3 (.int .i64 ((n : Nat) : Int)) h4 fun q5 h6 => ?_
  clear h4
  refine eE 2 8 (.move (.const (.int .i64 0))) 3 (.int .i64 0) h6 fun q7 h8 => ?_
  clear h6
  refine wpO_end ?_
  have h9 := h8.keep [(8, .int .i64 0), (7, .int .i64 ((n : Nat) : Int)), (4, .int .i64 0), (0, .slice A n c), (1, .func (.func 49) #[] #[.pointer (some ⟨b, 0, none⟩)])] ⟨rfl, rfl, rfl, rfl, rfl, trivial⟩
  clear h8
  refine then_n ?_
  refine c_block 0 (by kernel_rfl) ?_
  refine c_loop (by kernel_rfl) (fun qa qw => ∃ k : Nat, (k ≤ n) ∧ Fr 19 [(0, .slice A n c), (1, .func (.func 49) #[] #[.pointer (some ⟨b, 0, none⟩)]), (7, .int .i64 ((n : Nat) : Int)), (8, .int .i64 ((k : Nat) : Int))] qa ∧ Bx w [] qw ∧ (∀ (j : Nat) (y : Lk), j < k → ls[j]? = some y → (y.r.toList == r.toList) = false)) (fun qa _ => (((n : Int)) - intAt qa 8).toNat) ⟨0, Nat.zero_le _, h9.keep _ ⟨rfl, rfl, rfl, rfl, trivial⟩, hB, fun j _ hj => absurd hj (Nat.not_lt_zero _)⟩ ?_
  rintro q10 w11 ⟨k, hk14, h12, hB13, hx16⟩
  have hm15 := h12.int (k := 8) (kd := .i64) (z := ((k : Nat) : Int)) rfl
  clear h9 hB
  refine c_seq (by kernel_rfl) ?_
  refine reg_plain [(0, false)] (by kernel_rfl) (by kernel_rfl) ?_
  refine eE 0 9 (.binOp .lss 3 (.tmp 8) (.tmp 7) 3) 0 (.bool (decide (((k : Nat) : Int) < ((n : Nat) : Int)))) h12 fun q17 h18 => ?_
  clear h12
  refine wpO_end ?_
  refine then_n ?_
  refine c_seq (by kernel_rfl) ?_
  refine c_cond (t := 9) (b := decide (((k : Nat) : Int) < ((n : Nat) : Int))) h18 (by kernel_rfl) (by kernel_rfl) (fun hc19 => ?_) (fun hc19 => ?_)
  ·
    have hp20 : (((k : Nat) : Int) < ((n : Nat) : Int)) := of_decide_eq_true hc19
    have hlt : k < n := by omega
    obtain ⟨x, hx⟩ : ∃ x, ls[k]? = some x := ⟨ls[k], List.getElem?_eq_getElem (by omega)⟩
    obtain ⟨ad, hA, hE0⟩ := hr.el (k * 2) [.int .i64 x.t, .string x.r] (by simp) (lkc_el ls k x hx)
    subst hA
    refine c_skip (by kernel_rfl) ?_
    refine then_n ?_
    refine c_seq (by kernel_rfl) ?_
    refine c_block 1 (by kernel_rfl) ?_
    refine c_seq (by kernel_rfl) ?_
    refine reg_plain [(0, false), (1, false)] (by kernel_rfl) (by kernel_rfl) ?_
    refine eE 0 10 (.move (.tmp 8)) 3 (.int .i64 ((k : Nat) : Int)) h18 fun q21 h22 => ?_
    clear h18
    refine eE 1 5 (.assign (.tmp 10)) 3 (.int .i64 ((k : Nat) : Int)) h22 fun q23 h24 => ?_
    clear h22
    refine wpO_end ?_
    refine then_n ?_
    refine c_seq (by kernel_rfl) ?_
    refine reg_plain [(0, false), (1, false), (2, false), (3, false), (4, false), (5, false)] (by kernel_rfl) (by kernel_rfl) ?_
    refine eE 0 11 (.move (.tmp 1)) 77 (.func (.func 49) #[] #[.pointer (some ⟨b, 0, none⟩)]) h24 fun q25 h26 => ?_
    clear h24
    refine eE 1 12 (.move (.tmp 0)) 27 (.slice (some ad) n c) h26 fun q27 h28 => ?_
    clear h26
    refine eE 2 13 (.move (.tmp 5)) 3 (.int .i64 ((k : Nat) : Int)) h28 fun q29 h30 => ?_
    clear h28
    refine eE 3 14 (.indexAddr 27 (.tmp 12) (.tmp 13)) 0 (.pointer (some ((ad.add (k * 2)).add 0))) h30 (hr := r_index0 (n := n) (c := c) (kd := .i64) (by kernel_rfl) (by kernel_rfl) hlt (by kernel_rfl)) fun q31 h32 => ?_
    clear h30
    refine eE 4 15 (.load 66 (.tmp 14)) 66 (.agg #[.int .i64 x.t, .string x.r]) h32 (hr := r_loadE (o := 0) (vs := [.int .i64 x.t, .string x.r]) (hE0.below hB13.bel) (by kernel_rfl) (by kernel_rfl) (by kernel_rfl)) fun q33 h34 => ?_
    clear h32
    refine stC (i := 5) (d := 16) (op := Op.call { callee := Callee.value (Operand.tmp 11), args := #[Operand.tmp 15], argTypes := #[66] }) (ty := 4) (g := none) (f := 49) (args := #[.agg #[.int .i64 x.t, .string x.r], .pointer (some ⟨b, 0, none⟩)]) (w1 := w11) h34 (by kernel_rfl) (by kernel_rfl) (by kernel_rfl) gok_none (by kernel_rfl) (c49 x t r b w11 (hE.below hB13.bel)) ?_
    rintro _ w37 ⟨rfl, hb38⟩
    have hB39 := hB13.call hb38
    refine ⟨_, rfl, trivial, fun q35 h36 => ?_⟩
    clear h34 hB13 hb38
    refine wpO_end ?_
    refine then_n ?_
    refine c_cond (t := 16) (b := (x.r.toList == r.toList)) h36 (by kernel_rfl) (by kernel_rfl) (fun hc40 => ?_) (fun hc40 => ?_)
    ·
      refine c_seq (by kernel_rfl) ?_
      refine reg_plain [(0, false), (1, false)] (by kernel_rfl) (by kernel_rfl) ?_
      refine eE 0 17 (.move (.tmp 5)) 3 (.int .i64 ((k : Nat) : Int)) h36 fun q41 h42 => ?_
      clear h36
      refine eE 1 4 (.assign (.tmp 17)) 3 (.int .i64 ((k : Nat) : Int)) h42 fun q43 h44 => ?_
      clear h42
      refine wpO_end ?_
      refine then_n ?_
      refine c_ret (by kernel_rfl) ?_
      refine inB_r (then_r (then_r (inB_r (then_r ?_))))
      refine ret1 (t := 4) (v := .int .i64 ((k : Nat) : Int)) h44 (by kernel_rfl) (by kernel_rfl) ?_
      exact ⟨_, rfl, dup_yes hx hc40, hB39.bel⟩
    ·
      refine c_skip (by kernel_rfl) ?_
      refine inB_n ?_
      refine then_n ?_
      refine reg_plain [(0, false), (1, false)] (by kernel_rfl) (by kernel_rfl) ?_
      refine eE 0 18 (.binOp .add 3 (.tmp 8) (.const (.int .i64 1)) 3) 3 (.int .i64 (IntKind.i64.wrap (((k : Nat) : Int) + 1))) h36 fun q45 h46 => ?_
      clear h36
      refine eE 1 8 (.move (.tmp 18)) 3 (.int .i64 (IntKind.i64.wrap (((k : Nat) : Int) + 1))) h46 fun q47 h48 => ?_
      clear h46
      refine wpO_end ?_
      have h49 := h48.keep [(8, .int .i64 (IntKind.i64.wrap (((k : Nat) : Int) + 1))), (18, .int .i64 (IntKind.i64.wrap (((k : Nat) : Int) + 1))), (16, .bool (x.r.toList == r.toList)), (15, .agg #[.int .i64 x.t, .string x.r]), (14, .pointer (some ((ad.add (k * 2)).add 0))), (13, .int .i64 ((k : Nat) : Int)), (12, .slice (some ad) n c), (11, .func (.func 49) #[] #[.pointer (some ⟨b, 0, none⟩)]), (5, .int .i64 ((k : Nat) : Int)), (10, .int .i64 ((k : Nat) : Int)), (9, .bool (decide (((k : Nat) : Int) < ((n : Nat) : Int)))), (0, .slice (some ad) n c), (1, .func (.func 49) #[] #[.pointer (some ⟨b, 0, none⟩)]), (7, .int .i64 ((n : Nat) : Int))] ⟨rfl, rfl, rfl, rfl, rfl, rfl, rfl, rfl, rfl, rfl, rfl, rfl, rfl, rfl, trivial⟩
      clear h48
      have h50 := h49.keep [(0, .slice (some ad) n c), (1, .func (.func 49) #[] #[.pointer (some ⟨b, 0, none⟩)]), (7, .int .i64 ((n : Nat) : Int)), (8, .int .i64 (((k + 1) : Nat) : Int))] ⟨rfl, rfl, rfl, look_int rfl (wrap_succ (by have := hn; omega)), trivial⟩
      have hm51 := h50.int (k := 8) (kd := .i64) (z := (((k + 1) : Nat) : Int)) rfl
      refine then_n ⟨⟨k + 1, by omega, h50, hB39, fun j y hj hy => by rcases Nat.lt_succ_iff_lt_or_eq.1 hj with h' | rfl; exact hx16 j y h' hy; rw [hx] at hy; cases hy; exact hc40⟩, ?_⟩
      show (((n : Int)) - intAt _ 8).toNat < (((n : Int)) - intAt _ 8).toNat
      rw [hm15, hm51]; omega
  ·
    have hp52 : ¬ (((k : Nat) : Int) < ((n : Nat) : Int)) := of_decide_eq_false hc19
    refine c_exit 0 (by kernel_rfl) ?_
    refine then_e (then_e (inB_hit ?_))
    refine then_n ?_
    refine c_seq (by kernel_rfl) ?_
    refine reg_plain [(0, false)] (by kernel_rfl) (by kernel_rfl) ?_
    refine eE 0 4 (.assign (.const (.int .i64 (-1)))) 3 (.int .i64 (-1)) h18 fun q53 h54 => ?_
    clear h18
    refine wpO_end ?_
    have h55 := h54.keep [(4, .int .i64 (-1))] ⟨rfl, trivial⟩
    clear h54
    refine then_n ?_
    refine c_ret (by kernel_rfl) ?_
    refine ret1 (t := 4) (v := .int .i64 (-1)) h55 (by kernel_rfl) (by kernel_rfl) ?_
    exact ⟨_, rfl, dup_no hx16 (by omega), hB13.bel⟩

set_option maxHeartbeats 4000000 in
set_option maxRecDepth 20000 in
theorem c48 (ls : List Lk) (A : Option Addr) (n c : Nat) (t : Int) (r : ByteArray) (b : Nat) (w : World) (hl : ls.length = n) (hn : n ≤ 4611686018427387904) (hr : Rd w A (lkc ls)) (hE : El w ⟨b, 0, none⟩ [.int .i64 t, .string r]) : Calls Tryd.prog 48 #[.slice A n c, .func (.func 49) #[] #[.pointer (some ⟨b, 0, none⟩)]] w fun e w' => e = .returned (.bool (dupB ls r)) ∧ Below w.heap.size w w' := by
  refine enter Tryd.func48 (by kernel_rfl) ?_ (by kernel_rfl)
  intro q0 h0
  replace h0 := h0.conv (l' := [(0, .slice A n c), (1, .func (.func 49) #[] #[.pointer (some ⟨b, 0, none⟩)])]) rfl
  have hB := Bx.refl w
  refine c_seq (by kernel_rfl) ?_
  refine reg_plain [(0, false)] (by kernel_rfl) (by kernel_rfl) ?_
  refine eE 0 4 (.assign (.const (.bool false))) 4 (.bool false) h0 fun q1 h2 => ?_
  clear h0
  refine wpO_end ?_
  refine then_n ?_
  refine c_seq (by kernel_rfl) ?_
  refine reg_plain [(0, false), (1, false), (2, false), (3, false), (4, false)] (by kernel_rfl) (by kernel_rfl) ?_
  refine eE 0 5 (.move (.tmp 0)) 27 (.slice A n c) h2 fun q3 h4 => ?_
  clear h2
  refine eE 1 6 (.move (.tmp 1)) 77 (.func (.func 49) #[] #[.pointer (some ⟨b, 0, none⟩)]) h4 fun q5 h6 => ?_
  clear h4
  refine stC (i := 2) (d := 7) (op := Op.call { callee := Callee.value (Operand.func 62), args := #[Operand.tmp 5, Operand.tmp 6], argTypes := #[27, 77] }) (ty := 3) (g := none) (f := 62) (args := #[.slice A n c, .func (.func 49) #[] #[.pointer (some ⟨b, 0, none⟩)]]) (w1 := w) h6 (by kernel_rfl) (by kernel_rfl) (by kernel_rfl) gok_none (by kernel_rfl) (c62 ls A n c t r b w hl hn (hr.below hB.bel) (hE.below hB.bel)) ?_
  rintro _ w10 ⟨z9, rfl, hz13, hb11⟩
  have hB12 := hB.call hb11
  refine ⟨_, rfl, trivial, fun q7 h8 => ?_⟩
  clear h6 hB hb11
  refine eE 3 8 (.binOp .geq 3 (.tmp 7) (.const (.int .i64 0)) 3) 4 (.bool (decide ((0 : Int) ≤ z9))) h8 fun q14 h15 => ?_
  clear h8
  refine eE 4 4 (.assign (.tmp 8)) 4 (.bool (decide ((0 : Int) ≤ z9))) h15 fun q16 h17 => ?_
  clear h15
  refine wpO_end ?_
  have h18 := h17.keep [(4, .bool (decide ((0 : Int) ≤ z9)))] ⟨rfl, trivial⟩
  clear h17
  refine then_n ?_
  refine c_ret (by kernel_rfl) ?_
  refine ret1 (t := 4) (v := .bool (decide ((0 : Int) ≤ z9))) h18 (by kernel_rfl) (by kernel_rfl) ?_
  exact ⟨ret_eq (congrArg Value.bool hz13), hB12.bel⟩

end Go.Proofs.YtljegdokbifoiaaDoor.Af
