/- The reference's check of identifiers. No condition. -/
import Derived.Test.YtljegdokbifoiaaDoorRi
namespace Go.Proofs.YtljegdokbifoiaaDoor.Af
open Go.RowKit
theorem refb_bad1 (s : ByteArray) {e : Int} (h : pfxE (clsOf sp1) 4 s = e) : (e == 0) = memB s := by unfold memB; rw [h]
theorem refb_bad2 (s : ByteArray) {e : Int} (h : pfxE (clsOf sp2) 1 s = e) : (e == 0) = rfB s := by unfold rfB; rw [h]
theorem refb_ok1 (s : ByteArray) (h : pfxE (clsOf sp1) 4 s = 0) : ((0 : Int) == 0) = memB s := by unfold memB; rw [h]
theorem refb_ok2 (s : ByteArray) (h : pfxE (clsOf sp2) 1 s = 0) : ((0 : Int) == 0) = rfB s := by unfold rfB; rw [h]
theorem isin_bad (s : ByteArray) {e : Int} (h : pfxE (clsOf sp0) 12 s = e) (he : (e == 0) = false) : (e == 0) = isinB s := by
  unfold isinB
  rw [h, he, Bool.false_and]
theorem isin_r (s : ByteArray) (b : Bool) (h : pfxE (clsOf sp0) 12 s = 0) (e : Int) (h2 : (IntKind.i64.wrap (IntKind.u8.wrap ((((chAt s 11).toNat : Nat) : Int) - 48)) != ((luhnD (s.extract 0 11).data.toList : Nat) : Int)) = b) (he : (e == 0) = !b) : (e == 0) = isinB s := by
  refine isin_q s b e he (by rw [h]; rfl) ?_
  rw [← chk_digit s h]
  exact h2

set_option maxHeartbeats 4000000 in
set_option maxRecDepth 20000 in
theorem c63_0 (s : ByteArray) (w : World) : Calls Tryd.prog 63 #[.int .i64 0, .string s] w (fun e w' => ∃ at' E : Int, e = .returned (.tuple #[.int .i64 at', .int .i64 E]) ∧ (E == 0) = isinB s ∧ Below w.heap.size w w') := by
  refine enter Tryd.func63 (by kernel_rfl) ?_ (by kernel_rfl)
  intro q0 h0
  replace h0 := h0.conv (l' := [(0, .int .i64 0), (1, .string s)]) rfl
  have hB := Bx.refl w
  refine c_seq (by kernel_rfl) ?_
  refine reg_plain [(0, false), (1, false)] (by kernel_rfl) (by kernel_rfl) ?_
  refine eE 0 4 (.assign (.const (.int .i64 0))) 3 (.int .i64 0) h0 fun q1 h2 => ?_
  clear h0
  refine eE 1 5 (.assign (.const (.int .i64 0))) 3 (.int .i64 0) h2 fun q3 h4 => ?_
  clear h2
  refine wpO_end ?_
  refine then_n ?_
  refine c_seq (by kernel_rfl) ?_
  refine c_seq (by kernel_rfl) ?_
  refine reg_plain [(0, false), (1, false), (2, false), (3, false), (4, false), (5, false)] (by kernel_rfl) (by kernel_rfl) ?_
  refine eE 0 9 (.move (.tmp 0)) 3 (.int .i64 0) h4 fun q5 h6 => ?_
  clear h4
  refine eE 1 10 (.binOp .lss 3 (.tmp 9) (.const (.int .i64 0)) 3) 4 (.bool false) h6 fun q7 h8 => ?_
  clear h6
  refine eE 2 11 (.move (.tmp 10)) 4 (.bool false) h8 fun q9 h10 => ?_
  clear h8
  refine eG 3 12 (.move (.tmp 0)) 3 (2, false) (.int .i64 0) (g2 11 (rfl : false = false)) h10 fun q11 h12 => ?_
  clear h10
  refine eG 4 13 (.binOp .gtr 3 (.tmp 12) (.const (.int .i64 3)) 3) 4 (2, false) (.bool false) (g2 11 (rfl : false = false)) h12 fun q13 h14 => ?_
  clear h12
  refine eE 5 14 (.pick (.tmp 11) (.const (.bool true)) (.tmp 13)) 4 (.bool false) h14 fun q15 h16 => ?_
  clear h14
  refine wpO_end ?_
  have h17 := h16.keep [(14, .bool false), (5, .int .i64 0), (4, .int .i64 0), (0, .int .i64 0), (1, .string s)] ⟨rfl, rfl, rfl, rfl, rfl, trivial⟩
  clear h16
  refine then_n ?_
  refine c_cond (t := 14) (b := false) h17 (by kernel_rfl) (by kernel_rfl) (fun e18 => Bool.noConfusion (e18.symm.trans (rfl))) (fun _ => ?_)
  refine c_skip (by kernel_rfl) ?_
  refine then_n ?_
  refine c_seq (by kernel_rfl) ?_
  refine reg_plain [(0, false), (1, false), (2, false), (3, false), (4, false), (5, false), (6, false)] (by kernel_rfl) (by kernel_rfl) ?_
  refine eE 0 16 (.move (.tmp 0)) 3 (.int .i64 0) h17 fun q19 h20 => ?_
  clear h17
  refine stC (i := 1) (d := 17) (op := Op.call { callee := Callee.value (Operand.func 70), args := #[Operand.tmp 16], argTypes := #[3] }) (ty := 92) (g := none) (f := 70) (args := #[.int .i64 0]) (w1 := w) h20 (by kernel_rfl) (by kernel_rfl) (by kernel_rfl) gok_none (by kernel_rfl) (c70_0 w) ?_
  rintro _ w23 ⟨rfl, hb24⟩
  have hB25 := hB.call hb24
  refine ⟨_, rfl, trivial, fun q21 h22 => ?_⟩
  clear h20 hB hb24
  refine eE 2 15 (.move (.tmp 17)) 92 (.tuple #[.int .i64 12, .int .i64 12]) h22 fun q26 h27 => ?_
  clear h22
  refine eE 3 18 (.extract (.tmp 15) 0) 3 (.int .i64 12) h27 fun q28 h29 => ?_
  clear h27
  refine eE 4 19 (.extract (.tmp 15) 1) 3 (.int .i64 12) h29 fun q30 h31 => ?_
  clear h29
  refine eE 5 6 (.assign (.tmp 18)) 3 (.int .i64 12) h31 fun q32 h33 => ?_
  clear h31
  refine eE 6 7 (.assign (.tmp 19)) 3 (.int .i64 12) h33 fun q34 h35 => ?_
  clear h33
  refine wpO_end ?_
  have h36 := h35.keep [(7, .int .i64 12), (6, .int .i64 12), (5, .int .i64 0), (4, .int .i64 0), (0, .int .i64 0), (1, .string s)] ⟨rfl, rfl, rfl, rfl, rfl, rfl, trivial⟩
  clear h35
  refine then_n ?_
  refine c_seq (by kernel_rfl) ?_
  refine c_seq (by kernel_rfl) ?_
  refine reg_plain [(0, false)] (by kernel_rfl) (by kernel_rfl) ?_
  refine eE 0 8 (.assign (.const (.int .i64 0))) 3 (.int .i64 0) h36 fun q37 h38 => ?_
  clear h36
  refine wpO_end ?_
  refine then_n ?_
  refine c_block 0 (by kernel_rfl) ?_
  refine c_loop (by kernel_rfl) (fun qa qw => ∃ k : Nat, (k ≤ s.size) ∧ Fr 75 [(0, .int .i64 0), (1, .string s), (4, .int .i64 0), (5, .int .i64 0), (6, .int .i64 12), (7, .int .i64 12), (8, .int .i64 ((k : Nat) : Int))] qa ∧ Bx w [] qw ∧ (∀ (j : Nat) (g : Nat) (c : UInt8), j < k → (clsOf sp0)[j]? = some g → s.data.toList[j]? = some c → clsB g (c.toNat : Int) = true)) (fun qa _ => (((s.size : Int)) - intAt qa 8).toNat) ⟨0, Nat.zero_le _, h38.keep _ ⟨rfl, rfl, rfl, rfl, rfl, rfl, rfl, trivial⟩, hB25, fun j _ _ hj => absurd hj (Nat.not_lt_zero _)⟩ ?_
  rintro q39 w40 ⟨k, hk43, h41, hB42, hx45⟩
  have hm44 := h41.int (k := 8) (kd := .i64) (z := ((k : Nat) : Int)) rfl
  clear h38 hB25
  refine c_seq (by kernel_rfl) ?_
  refine c_seq (by kernel_rfl) ?_
  refine reg_plain [(0, false), (1, false), (2, false), (3, false), (4, false), (5, false), (6, false), (7, false), (8, false)] (by kernel_rfl) (by kernel_rfl) ?_
  refine eE 0 20 (.move (.tmp 8)) 3 (.int .i64 ((k : Nat) : Int)) h41 fun q46 h47 => ?_
  clear h41
  refine eE 1 21 (.move (.tmp 1)) 9 (.string s) h47 fun q48 h49 => ?_
  clear h47
  refine eE 2 22 (.call { callee := .builtin .len, args := #[.tmp 21], argTypes := #[9] }) 3 (.int .i64 ((s.size : Nat) : Int)) h49 fun q50 h51 => ?_
  clear h49
  refine eE 3 23 (.binOp .lss 3 (.tmp 20) (.tmp 22) 3) 4 (.bool (decide (((k : Nat) : Int) < ((s.size : Nat) : Int)))) h51 fun q52 h53 => ?_
  clear h51
  refine eE 4 24 (.move (.tmp 23)) 4 (.bool (decide (((k : Nat) : Int) < ((s.size : Nat) : Int)))) h53 fun q54 h55 => ?_
  clear h53
  refine wpO_cut [(5, false), (6, false), (7, false), (8, false)] [] (fun qa qw => Fr 75 [(28, .bool ((decide (((k : Nat) : Int) < ((s.size : Nat) : Int))) && (decide (((k : Nat) : Int) < (12 : Int))))), (24, .bool (decide (((k : Nat) : Int) < ((s.size : Nat) : Int)))), (23, .bool (decide (((k : Nat) : Int) < ((s.size : Nat) : Int)))), (22, .int .i64 ((s.size : Nat) : Int)), (21, .string s), (20, .int .i64 ((k : Nat) : Int)), (0, .int .i64 0), (1, .string s), (4, .int .i64 0), (5, .int .i64 0), (6, .int .i64 12), (7, .int .i64 12), (8, .int .i64 ((k : Nat) : Int))] qa ∧ Bx w [] qw) ?_ ?_
  ·
    rcases Bool.eq_false_or_eq_true (decide (((k : Nat) : Int) < ((s.size : Nat) : Int))) with hc56 | hc56
    ·
      refine eG 5 25 (.move (.tmp 8)) 3 (4, true) (.int .i64 ((k : Nat) : Int)) (g1 24 hc56) h55 fun q57 h58 => ?_
      clear h55
      refine eG 6 26 (.move (.tmp 7)) 3 (4, true) (.int .i64 12) (g1 24 hc56) h58 fun q59 h60 => ?_
      clear h58
      refine eG 7 27 (.binOp .lss 3 (.tmp 25) (.tmp 26) 3) 4 (4, true) (.bool (decide (((k : Nat) : Int) < (12 : Int)))) (g1 24 hc56) h60 fun q61 h62 => ?_
      clear h60
      refine eE 8 28 (.pick (.tmp 24) (.tmp 27) (.const (.bool false))) 4 (.bool ((decide (((k : Nat) : Int) < ((s.size : Nat) : Int))) && (decide (((k : Nat) : Int) < (12 : Int))))) h62 (hr := r_and (c := decide (((k : Nat) : Int) < ((s.size : Nat) : Int))) (d := (decide (((k : Nat) : Int) < (12 : Int)))) (by kernel_rfl) (fun _ => by kernel_rfl)) fun q63 h64 => ?_
      clear h62
      exact ⟨h64.keep _ ⟨rfl, rfl, rfl, rfl, rfl, rfl, rfl, rfl, rfl, rfl, rfl, rfl, rfl, trivial⟩, hB42⟩
    ·
      refine kE 5 25 (4, true) (g3 24 hc56) h55 trivial fun q65 h66 => ?_
      clear h55
      refine kE 6 26 (4, true) (g3 24 hc56) h66 trivial fun q67 h68 => ?_
      clear h66
      refine kE 7 27 (4, true) (g3 24 hc56) h68 trivial fun q69 h70 => ?_
      clear h68
      refine eE 8 28 (.pick (.tmp 24) (.tmp 27) (.const (.bool false))) 4 (.bool ((decide (((k : Nat) : Int) < ((s.size : Nat) : Int))) && (decide (((k : Nat) : Int) < (12 : Int))))) h70 (hr := r_and (c := decide (((k : Nat) : Int) < ((s.size : Nat) : Int))) (d := (decide (((k : Nat) : Int) < (12 : Int)))) (by kernel_rfl) (fun e73 => Bool.noConfusion (e73.symm.trans hc56))) fun q71 h72 => ?_
      clear h70
      exact ⟨h72.keep _ ⟨rfl, rfl, rfl, rfl, rfl, rfl, rfl, rfl, rfl, rfl, rfl, rfl, rfl, trivial⟩, hB42⟩
  rintro q74 w75 ⟨h76, hB77⟩
  refine wpO_end ?_
  refine then_n ?_
  refine c_cond (t := 28) (b := (decide (((k : Nat) : Int) < ((s.size : Nat) : Int))) && (decide (((k : Nat) : Int) < (12 : Int)))) h76 (by kernel_rfl) (by kernel_rfl) (fun hc78 => ?_) (fun hc78 => ?_)
  ·
    have hlt : k < s.size ∧ k < 12 := by have := hc78; simp at this; omega
    obtain ⟨x, hx⟩ : ∃ x, (clsOf sp0)[k]? = some x := ⟨(clsOf sp0)[k]'hlt.2, List.getElem?_eq_getElem (show k < (clsOf sp0).length from hlt.2)⟩
    refine c_skip (by kernel_rfl) ?_
    refine then_n ?_
    refine c_seq (by kernel_rfl) ?_
    refine c_block 1 (by kernel_rfl) ?_
    refine c_seq (by kernel_rfl) ?_
    refine reg_plain [(0, false), (1, false), (2, false), (3, false), (4, false), (5, false), (6, false)] (by kernel_rfl) (by kernel_rfl) ?_
    refine eE 0 31 (.move (.tmp 0)) 3 (.int .i64 0) h76 fun q79 h80 => ?_
    clear h76
    refine eE 1 32 (.move (.tmp 8)) 3 (.int .i64 ((k : Nat) : Int)) h80 fun q81 h82 => ?_
    clear h80
    refine eE 2 33 (.move (.tmp 1)) 9 (.string s) h82 fun q83 h84 => ?_
    clear h82
    refine eE 3 34 (.move (.tmp 8)) 3 (.int .i64 ((k : Nat) : Int)) h84 fun q85 h86 => ?_
    clear h84
    refine eE 4 35 (.index 9 (.tmp 33) (.tmp 34)) 5 (.int .u8 (((chAt s k).toNat : Nat) : Int)) h86 (hr := r_indexS (kd := .i64) (i := k) (b := (chAt s k)) (by kernel_rfl) (by kernel_rfl) (getS (by omega)) (by kernel_rfl)) fun q87 h88 => ?_
    clear h86
    refine stC (i := 5) (d := 36) (op := Op.call { callee := Callee.value (Operand.func 71), args := #[Operand.tmp 31, Operand.tmp 32, Operand.tmp 35], argTypes := #[3, 3, 5] }) (ty := 4) (g := none) (f := 71) (args := #[.int .i64 0, .int .i64 ((k : Nat) : Int), .int .u8 (((chAt s k).toNat : Nat) : Int)]) (w1 := w75) h88 (by kernel_rfl) (by kernel_rfl) (by kernel_rfl) gok_none (by kernel_rfl) (c71_0 ((k : Nat) : Int) (((chAt s k).toNat : Nat) : Int) w75) ?_
    rintro _ w91 ⟨rfl, hb92⟩
    have hB93 := hB77.call hb92
    refine ⟨_, rfl, trivial, fun q89 h90 => ?_⟩
    clear h88 hB77 hb92
    refine eE 6 37 (.unOp .not 4 (.tmp 36)) 4 (.bool (!(mayB 0 ((k : Nat) : Int) (((chAt s k).toNat : Nat) : Int)))) h90 fun q94 h95 => ?_
    clear h90
    refine wpO_end ?_
    refine then_n ?_
    refine c_cond (t := 37) (b := !(mayB 0 ((k : Nat) : Int) (((chAt s k).toNat : Nat) : Int))) h95 (by kernel_rfl) (by kernel_rfl) (fun hc96 => ?_) (fun hc96 => ?_)
    ·
      rw [may_cls 0 (by decide) k x _ hx] at hc96
      refine c_seq (by kernel_rfl) ?_
      refine reg_plain [(0, false), (1, false), (2, false)] (by kernel_rfl) (by kernel_rfl) ?_
      refine eE 0 38 (.move (.tmp 8)) 3 (.int .i64 ((k : Nat) : Int)) h95 fun q97 h98 => ?_
      clear h95
      refine eE 1 4 (.assign (.tmp 38)) 3 (.int .i64 ((k : Nat) : Int)) h98 fun q99 h100 => ?_
      clear h98
      refine eE 2 5 (.assign (.const (.int .i64 3))) 3 (.int .i64 3) h100 fun q101 h102 => ?_
      clear h100
      refine wpO_end ?_
      have h103 := h102.keep [(5, .int .i64 3), (4, .int .i64 ((k : Nat) : Int)), (38, .int .i64 ((k : Nat) : Int)), (37, .bool (!(mayB 0 ((k : Nat) : Int) (((chAt s k).toNat : Nat) : Int)))), (36, .bool (mayB 0 ((k : Nat) : Int) (((chAt s k).toNat : Nat) : Int))), (35, .int .u8 (((chAt s k).toNat : Nat) : Int)), (34, .int .i64 ((k : Nat) : Int)), (33, .string s), (32, .int .i64 ((k : Nat) : Int)), (31, .int .i64 0), (28, .bool ((decide (((k : Nat) : Int) < ((s.size : Nat) : Int))) && (decide (((k : Nat) : Int) < (12 : Int))))), (24, .bool (decide (((k : Nat) : Int) < ((s.size : Nat) : Int)))), (23, .bool (decide (((k : Nat) : Int) < ((s.size : Nat) : Int)))), (22, .int .i64 ((s.size : Nat) : Int)), (21, .string s), (20, .int .i64 ((k : Nat) : Int)), (0, .int .i64 0), (1, .string s), (6, .int .i64 12), (7, .int .i64 12), (8, .int .i64 ((k : Nat) : Int))] ⟨rfl, rfl, rfl, rfl, rfl, rfl, rfl, rfl, rfl, rfl, rfl, rfl, rfl, rfl, rfl, rfl, rfl, rfl, rfl, rfl, rfl, trivial⟩
      clear h102
      refine then_n ?_
      refine c_ret (by kernel_rfl) ?_
      refine inB_r (then_r (then_r (inB_r (then_r ?_))))
      refine ret2 (t := 4) (u := 5) (v := .int .i64 ((k : Nat) : Int)) (v' := .int .i64 3) h103 (by kernel_rfl) (by kernel_rfl) (by kernel_rfl) ?_
      exact ⟨_, _, rfl, isin_bad s (pfx_bad (sh := 12) hx (by rw [decide_eq_true (by omega), Bool.true_and]; exact hc96)) rfl, hB93.bel⟩
    ·
      rw [may_cls 0 (by decide) k x _ hx] at hc96
      refine c_skip (by kernel_rfl) ?_
      refine inB_n ?_
      refine then_n ?_
      refine reg_plain [(0, false), (1, false), (2, false)] (by kernel_rfl) (by kernel_rfl) ?_
      refine eE 0 29 (.move (.tmp 8)) 3 (.int .i64 ((k : Nat) : Int)) h95 fun q104 h105 => ?_
      clear h95
      refine eE 1 30 (.binOp .add 3 (.tmp 29) (.const (.int .i64 1)) 3) 3 (.int .i64 (IntKind.i64.wrap (((k : Nat) : Int) + 1))) h105 fun q106 h107 => ?_
      clear h105
      refine eE 2 8 (.assign (.tmp 30)) 3 (.int .i64 (IntKind.i64.wrap (((k : Nat) : Int) + 1))) h107 fun q108 h109 => ?_
      clear h107
      refine wpO_end ?_
      have h110 := h109.keep [(8, .int .i64 (IntKind.i64.wrap (((k : Nat) : Int) + 1))), (30, .int .i64 (IntKind.i64.wrap (((k : Nat) : Int) + 1))), (29, .int .i64 ((k : Nat) : Int)), (37, .bool (!(mayB 0 ((k : Nat) : Int) (((chAt s k).toNat : Nat) : Int)))), (36, .bool (mayB 0 ((k : Nat) : Int) (((chAt s k).toNat : Nat) : Int))), (35, .int .u8 (((chAt s k).toNat : Nat) : Int)), (34, .int .i64 ((k : Nat) : Int)), (33, .string s), (32, .int .i64 ((k : Nat) : Int)), (31, .int .i64 0), (28, .bool ((decide (((k : Nat) : Int) < ((s.size : Nat) : Int))) && (decide (((k : Nat) : Int) < (12 : Int))))), (24, .bool (decide (((k : Nat) : Int) < ((s.size : Nat) : Int)))), (23, .bool (decide (((k : Nat) : Int) < ((s.size : Nat) : Int)))), (22, .int .i64 ((s.size : Nat) : Int)), (21, .string s), (20, .int .i64 ((k : Nat) : Int)), (0, .int .i64 0), (1, .string s), (4, .int .i64 0), (5, .int .i64 0), (6, .int .i64 12), (7, .int .i64 12)] ⟨rfl, rfl, rfl, rfl, rfl, rfl, rfl, rfl, rfl, rfl, rfl, rfl, rfl, rfl, rfl, rfl, rfl, rfl, rfl, rfl, rfl, rfl, trivial⟩
      clear h109
      have h111 := h110.keep [(0, .int .i64 0), (1, .string s), (4, .int .i64 0), (5, .int .i64 0), (6, .int .i64 12), (7, .int .i64 12), (8, .int .i64 (((k + 1) : Nat) : Int))] ⟨rfl, rfl, rfl, rfl, rfl, rfl, look_int rfl (wrap_succ (by have := hlt.2; omega)), trivial⟩
      have hm112 := h111.int (k := 8) (kd := .i64) (z := (((k + 1) : Nat) : Int)) rfl
      refine then_n ⟨⟨k + 1, by omega, h111, hB93, pfx_step hx45 hx (by rw [decide_eq_true (by omega), Bool.true_and]; exact hc96)⟩, ?_⟩
      show (((s.size : Int)) - intAt _ 8).toNat < (((s.size : Int)) - intAt _ 8).toNat
      rw [hm44, hm112]; omega
  ·
    have hend : s.size ≤ k ∨ 12 ≤ k := by have := hc78; simp at this; omega
    have hpf := pfx_ok2 (cl := (clsOf sp0)) (sh := 12) hx45 hend
    refine c_exit 0 (by kernel_rfl) ?_
    refine then_e (then_e (inB_hit ?_))
    refine then_n ?_
    refine c_seq (by kernel_rfl) ?_
    refine c_seq (by kernel_rfl) ?_
    refine reg_plain [(0, false), (1, false), (2, false), (3, false)] (by kernel_rfl) (by kernel_rfl) ?_
    refine eE 0 39 (.move (.tmp 1)) 9 (.string s) h76 fun q113 h114 => ?_
    clear h76
    refine eE 1 40 (.call { callee := .builtin .len, args := #[.tmp 39], argTypes := #[9] }) 3 (.int .i64 ((s.size : Nat) : Int)) h114 fun q115 h116 => ?_
    clear h114
    refine eE 2 41 (.move (.tmp 6)) 3 (.int .i64 12) h116 fun q117 h118 => ?_
    clear h116
    refine eE 3 42 (.binOp .lss 3 (.tmp 40) (.tmp 41) 3) 4 (.bool (decide (((s.size : Nat) : Int) < (12 : Int)))) h118 fun q119 h120 => ?_
    clear h118
    refine wpO_end ?_
    have h121 := h120.keep [(42, .bool (decide (((s.size : Nat) : Int) < (12 : Int)))), (0, .int .i64 0), (1, .string s), (4, .int .i64 0), (5, .int .i64 0), (7, .int .i64 12)] ⟨rfl, rfl, rfl, rfl, rfl, rfl, trivial⟩
    clear h120
    refine then_n ?_
    refine c_cond (t := 42) (b := decide (((s.size : Nat) : Int) < (12 : Int))) h121 (by kernel_rfl) (by kernel_rfl) (fun hc122 => ?_) (fun hc122 => ?_)
    ·
      have hp123 : (((s.size : Nat) : Int) < (12 : Int)) := of_decide_eq_true hc122
      refine c_seq (by kernel_rfl) ?_
      refine reg_plain [(0, false), (1, false), (2, false), (3, false)] (by kernel_rfl) (by kernel_rfl) ?_
      refine eE 0 43 (.move (.tmp 1)) 9 (.string s) h121 fun q124 h125 => ?_
      clear h121
      refine eE 1 44 (.call { callee := .builtin .len, args := #[.tmp 43], argTypes := #[9] }) 3 (.int .i64 ((s.size : Nat) : Int)) h125 fun q126 h127 => ?_
      clear h125
      refine eE 2 4 (.assign (.tmp 44)) 3 (.int .i64 ((s.size : Nat) : Int)) h127 fun q128 h129 => ?_
      clear h127
      refine eE 3 5 (.assign (.const (.int .i64 4))) 3 (.int .i64 4) h129 fun q130 h131 => ?_
      clear h129
      refine wpO_end ?_
      have h132 := h131.keep [(5, .int .i64 4), (4, .int .i64 ((s.size : Nat) : Int)), (0, .int .i64 0), (1, .string s), (7, .int .i64 12)] ⟨rfl, rfl, rfl, rfl, rfl, trivial⟩
      clear h131
      refine then_n ?_
      refine c_ret (by kernel_rfl) ?_
      refine then_r ?_
      refine ret2 (t := 4) (u := 5) (v := .int .i64 ((s.size : Nat) : Int)) (v' := .int .i64 4) h132 (by kernel_rfl) (by kernel_rfl) (by kernel_rfl) ?_
      exact ⟨_, _, rfl, isin_bad s (show pfxE (clsOf sp0) 12 s = 4 from hpf.trans (cT hc122)) rfl, hB77.bel⟩
    ·
      have hp133 : ¬ (((s.size : Nat) : Int) < (12 : Int)) := of_decide_eq_false hc122
      refine c_skip (by kernel_rfl) ?_
      refine then_n ?_
      refine c_seq (by kernel_rfl) ?_
      refine c_seq (by kernel_rfl) ?_
      refine reg_plain [(0, false), (1, false), (2, false), (3, false)] (by kernel_rfl) (by kernel_rfl) ?_
      refine eE 0 45 (.move (.tmp 1)) 9 (.string s) h121 fun q134 h135 => ?_
      clear h121
      refine eE 1 46 (.call { callee := .builtin .len, args := #[.tmp 45], argTypes := #[9] }) 3 (.int .i64 ((s.size : Nat) : Int)) h135 fun q136 h137 => ?_
      clear h135
      refine eE 2 47 (.move (.tmp 7)) 3 (.int .i64 12) h137 fun q138 h139 => ?_
      clear h137
      refine eE 3 48 (.binOp .gtr 3 (.tmp 46) (.tmp 47) 3) 4 (.bool (decide ((12 : Int) < ((s.size : Nat) : Int)))) h139 fun q140 h141 => ?_
      clear h139
      refine wpO_end ?_
      have h142 := h141.keep [(48, .bool (decide ((12 : Int) < ((s.size : Nat) : Int)))), (0, .int .i64 0), (1, .string s), (4, .int .i64 0), (5, .int .i64 0), (7, .int .i64 12)] ⟨rfl, rfl, rfl, rfl, rfl, rfl, trivial⟩
      clear h141
      refine then_n ?_
      refine c_cond (t := 48) (b := decide ((12 : Int) < ((s.size : Nat) : Int))) h142 (by kernel_rfl) (by kernel_rfl) (fun hc143 => ?_) (fun hc143 => ?_)
      ·
        have hp144 : ((12 : Int) < ((s.size : Nat) : Int)) := of_decide_eq_true hc143
        refine c_seq (by kernel_rfl) ?_
        refine reg_plain [(0, false), (1, false), (2, false)] (by kernel_rfl) (by kernel_rfl) ?_
        refine eE 0 49 (.move (.tmp 7)) 3 (.int .i64 12) h142 fun q145 h146 => ?_
        clear h142
        refine eE 1 4 (.assign (.tmp 49)) 3 (.int .i64 12) h146 fun q147 h148 => ?_
        clear h146
        refine eE 2 5 (.assign (.const (.int .i64 5))) 3 (.int .i64 5) h148 fun q149 h150 => ?_
        clear h148
        refine wpO_end ?_
        have h151 := h150.keep [(5, .int .i64 5), (4, .int .i64 12), (0, .int .i64 0), (1, .string s)] ⟨rfl, rfl, rfl, rfl, trivial⟩
        clear h150
        refine then_n ?_
        refine c_ret (by kernel_rfl) ?_
        refine then_r ?_
        refine ret2 (t := 4) (u := 5) (v := .int .i64 12) (v' := .int .i64 5) h151 (by kernel_rfl) (by kernel_rfl) (by kernel_rfl) ?_
        exact ⟨_, _, rfl, isin_bad s (show pfxE (clsOf sp0) 12 s = 5 from hpf.trans ((cF hc122).trans (cT hc143))) rfl, hB77.bel⟩
      ·
        have hp152 : ¬ ((12 : Int) < ((s.size : Nat) : Int)) := of_decide_eq_false hc143
        have h0 : pfxE (clsOf sp0) 12 s = 0 := by rw [hpf, cF hc122, show ((clsOf sp0).length : Int) = 12 from rfl, cF hc143]
        have hbody := isin_body s h0
        have hsz := hbody.1
        refine c_skip (by kernel_rfl) ?_
        refine then_n ?_
        refine c_seq (by kernel_rfl) ?_
        refine c_seq (by kernel_rfl) ?_
        have hD153 := hB77.drew
        refine reg_draw (S := Bx w []) 12 [⟨0, true, 0, 1, 1125899906842624⟩, ⟨1, true, 1, 1125899906842624, 2251799813685248⟩, ⟨2, true, 2, 2251799813685248, 4503599627370496⟩, ⟨3, true, 4, 4503599627370498, 9007199254740992⟩, ⟨4, true, 12, 13510798882111488, 18014398509481984⟩, ⟨5, true, 20, 22517998136852480, 36028797018963968⟩, ⟨6, true, 36, 40532396646334464, 72057594037927936⟩, ⟨7, true, 4, 4503599627370498, 144115188075855872⟩, ⟨8, true, 132, 148618787703226368, 288230376151711744⟩, ⟨9, false, 260, 292733975779082240, 576460752303423488⟩, ⟨10, true, 580, 653021945968721920, 1152921504606846976⟩, ⟨11, true, 1028, 1157425104234217472, 2305843009213693952⟩] [(0, true), (1, true), (2, true), (3, true), (4, true), (5, true), (6, true), (7, true), (8, true), (9, false), (10, true), (11, true)] (by kernel_rfl) (by kernel_rfl) (by kernel_rfl) (by kernel_rfl) (fun _ _ _ _ h => absurd h.2 (by simp)) hD153 ?_
        generalize World.drew w75 = w154 at hD153 ⊢
        refine fE 0 50 (.move (.tmp 0)) 3 (.int .i64 0) h142 fun q155 h156 => ?_
        clear h142
        refine fE 1 51 (.binOp .eql 3 (.tmp 50) (.const (.int .i64 0)) 3) 4 (.bool true) h156 fun q157 h158 => ?_
        clear h156
        refine fE 2 52 (.move (.tmp 51)) 4 (.bool true) h158 fun q159 h160 => ?_
        clear h158
        refine fG 3 53 (.move (.tmp 1)) 9 (2, true) (.string s) (g1 52 (rfl : true = true)) h160 fun q161 h162 => ?_
        clear h160
        refine fG 4 54 (.index 9 (.tmp 53) (.const (.int .i64 11))) 5 (2, true) (.int .u8 (((chAt s 11).toNat : Nat) : Int)) (g1 52 (rfl : true = true)) h162 (hr := fun _ hS => r_indexS (kd := .i64) (i := 11) (b := (chAt s 11)) (by kernel_rfl) (by kernel_rfl) (getS (by omega)) (by kernel_rfl)) fun q163 h164 => ?_
        clear h162
        refine fG 5 55 (.binOp .sub 5 (.tmp 54) (.const (.int .u8 48)) 5) 5 (2, true) (.int .u8 (IntKind.u8.wrap ((((chAt s 11).toNat : Nat) : Int) - 48))) (g1 52 (rfl : true = true)) h164 fun q165 h166 => ?_
        clear h164
        refine fG 6 56 (.convert 5 3 (.tmp 55)) 3 (2, true) (.int .i64 (IntKind.i64.wrap (IntKind.u8.wrap ((((chAt s 11).toNat : Nat) : Int) - 48)))) (g1 52 (rfl : true = true)) h166 fun q167 h168 => ?_
        clear h166
        refine fG 7 57 (.move (.tmp 1)) 9 (2, true) (.string s) (g1 52 (rfl : true = true)) h168 fun q169 h170 => ?_
        clear h168
        refine fG 8 58 (.slice 9 (.tmp 57) none (some (.const (.int .i64 11))) none) 9 (2, true) (.string (s.extract 0 11)) (g1 52 (rfl : true = true)) h170 (hr := fun _ hS => r_sliceSHi (kd := .i64) (i := 11) (by kernel_rfl) (by kernel_rfl) (by omega) (by kernel_rfl)) fun q171 h172 => ?_
        clear h170
        refine stC (i := 9) (d := 59) (op := Op.call { callee := Callee.value (Operand.func 72), args := #[Operand.tmp 58], argTypes := #[9] }) (ty := 3) (g := (some (2, true))) (f := 72) (args := #[.string (s.extract 0 11)]) (w1 := w154) h172 (by kernel_rfl) (by kernel_rfl) (by kernel_rfl) (g1 52 (rfl : true = true)) (by kernel_rfl) (c72 (s.extract 0 11) w154 (by rw [extract_size _ _ (by omega)]; omega) hbody.2) ?_
        rintro _ w175 ⟨rfl, hb176⟩
        have hB177 := hD153.call hb176
        refine ⟨_, rfl, hB177, fun q173 h174 => ?_⟩
        clear h172 hD153 hb176
        refine fG 10 60 (.binOp .neq 3 (.tmp 56) (.tmp 59) 3) 4 (2, true) (.bool (IntKind.i64.wrap (IntKind.u8.wrap ((((chAt s 11).toNat : Nat) : Int) - 48)) != ((luhnD (s.extract 0 11).data.toList : Nat) : Int))) (g1 52 (rfl : true = true)) h174 fun q178 h179 => ?_
        clear h174
        refine fE 11 61 (.pick (.tmp 52) (.tmp 60) (.const (.bool false))) 4 (.bool (IntKind.i64.wrap (IntKind.u8.wrap ((((chAt s 11).toNat : Nat) : Int) - 48)) != ((luhnD (s.extract 0 11).data.toList : Nat) : Int))) h179 fun q180 h181 => ?_
        clear h179
        refine wpO_end ?_
        have h182 := h181.keep [(61, .bool (IntKind.i64.wrap (IntKind.u8.wrap ((((chAt s 11).toNat : Nat) : Int) - 48)) != ((luhnD (s.extract 0 11).data.toList : Nat) : Int))), (0, .int .i64 0), (1, .string s), (4, .int .i64 0), (5, .int .i64 0)] ⟨rfl, rfl, rfl, rfl, rfl, trivial⟩
        clear h181
        refine then_n ?_
        refine c_cond (t := 61) (b := (IntKind.i64.wrap (IntKind.u8.wrap ((((chAt s 11).toNat : Nat) : Int) - 48)) != ((luhnD (s.extract 0 11).data.toList : Nat) : Int))) h182 (by kernel_rfl) (by kernel_rfl) (fun hc183 => ?_) (fun hc183 => ?_)
        ·
          refine c_seq (by kernel_rfl) ?_
          refine reg_plain [(0, false), (1, false)] (by kernel_rfl) (by kernel_rfl) ?_
          refine eE 0 4 (.assign (.const (.int .i64 11))) 3 (.int .i64 11) h182 fun q184 h185 => ?_
          clear h182
          refine eE 1 5 (.assign (.const (.int .i64 18))) 3 (.int .i64 18) h185 fun q186 h187 => ?_
          clear h185
          refine wpO_end ?_
          have h188 := h187.keep [(5, .int .i64 18), (4, .int .i64 11), (0, .int .i64 0), (1, .string s)] ⟨rfl, rfl, rfl, rfl, trivial⟩
          clear h187
          refine then_n ?_
          refine c_ret (by kernel_rfl) ?_
          refine then_r ?_
          refine ret2 (t := 4) (u := 5) (v := .int .i64 11) (v' := .int .i64 18) h188 (by kernel_rfl) (by kernel_rfl) (by kernel_rfl) ?_
          exact ⟨_, _, rfl, isin_r s true h0 18 hc183 rfl, hB177.bel⟩
        ·
          refine c_skip (by kernel_rfl) ?_
          refine then_n ?_
          refine c_seq (by kernel_rfl) ?_
          refine c_seq (by kernel_rfl) ?_
          have hD189 := hB177.drew
          refine reg_draw (S := Bx w []) 13 [⟨0, true, 0, 1, 4611686018427387904⟩, ⟨1, true, 1, 4611686018427387904, 9223372036854775808⟩, ⟨2, true, 2, 9223372036854775808, 18446744073709551616⟩, ⟨3, true, 4, 18446744073709551618, 36893488147419103232⟩, ⟨4, true, 12, 55340232221128654848, 73786976294838206464⟩, ⟨5, true, 4, 18446744073709551618, 147573952589676412928⟩, ⟨6, true, 36, 166020696663385964544, 295147905179352825856⟩, ⟨7, true, 68, 313594649253062377472, 590295810358705651712⟩, ⟨8, false, 132, 608742554432415203328, 1180591620717411303424⟩, ⟨9, true, 260, 1199038364791120855040, 2361183241434822606848⟩, ⟨10, false, 772, 2379629985508532158464, 4722366482869645213696⟩, ⟨11, true, 1044, 4814600203238192971776, 9444732965739290427392⟩, ⟨12, true, 2052, 9463179709812999979008, 18889465931478580854784⟩] [(0, true), (1, true), (2, true), (3, true), (4, true), (5, true), (6, true), (7, true), (8, false), (9, true), (10, false), (11, true), (12, true)] (by kernel_rfl) (by kernel_rfl) (by kernel_rfl) (by kernel_rfl) (fun _ _ _ _ h => absurd h.2 (by simp)) hD189 ?_
          generalize World.drew w175 = w190 at hD189 ⊢
          refine fE 0 62 (.move (.tmp 0)) 3 (.int .i64 0) h182 fun q191 h192 => ?_
          clear h182
          refine fE 1 63 (.binOp .eql 3 (.tmp 62) (.const (.int .i64 3)) 3) 4 (.bool false) h192 fun q193 h194 => ?_
          clear h192
          refine fE 2 64 (.move (.tmp 63)) 4 (.bool false) h194 fun q195 h196 => ?_
          clear h194
          refine kF 3 65 (2, true) (g3 64 (rfl : false = false)) h196 fun q197 h198 => ?_
          clear h196
          refine kF 4 66 (2, true) (g3 64 (rfl : false = false)) h198 fun q199 h200 => ?_
          clear h198
          refine kF 5 67 (2, true) (g3 64 (rfl : false = false)) h200 fun q201 h202 => ?_
          clear h200
          refine kF 6 68 (2, true) (g3 64 (rfl : false = false)) h202 fun q203 h204 => ?_
          clear h202
          refine kF 7 69 (2, true) (g3 64 (rfl : false = false)) h204 fun q205 h206 => ?_
          clear h204
          refine kE 8 70 (2, true) (g3 64 (rfl : false = false)) h206 hD189 fun q207 h208 => ?_
          clear h206
          refine kF 9 71 (2, true) (g3 64 (rfl : false = false)) h208 fun q209 h210 => ?_
          clear h208
          refine kE 10 72 (2, true) (g3 64 (rfl : false = false)) h210 hD189 fun q211 h212 => ?_
          clear h210
          refine kF 11 73 (2, true) (g3 64 (rfl : false = false)) h212 fun q213 h214 => ?_
          clear h212
          refine fE 12 74 (.pick (.tmp 64) (.tmp 73) (.const (.bool false))) 4 (.bool false) h214 fun q215 h216 => ?_
          clear h214
          refine wpO_end ?_
          have h217 := h216.keep [(74, .bool false), (4, .int .i64 0), (5, .int .i64 0)] ⟨rfl, rfl, rfl, trivial⟩
          clear h216
          refine then_n ?_
          refine c_cond (t := 74) (b := false) h217 (by kernel_rfl) (by kernel_rfl) (fun e218 => Bool.noConfusion (e218.symm.trans (rfl))) (fun _ => ?_)
          refine c_skip (by kernel_rfl) ?_
          refine then_n ?_
          refine c_seq (by kernel_rfl) ?_
          refine reg_plain [(0, false), (1, false)] (by kernel_rfl) (by kernel_rfl) ?_
          refine eE 0 4 (.assign (.const (.int .i64 0))) 3 (.int .i64 0) h217 fun q219 h220 => ?_
          clear h217
          refine eE 1 5 (.assign (.const (.int .i64 0))) 3 (.int .i64 0) h220 fun q221 h222 => ?_
          clear h220
          refine wpO_end ?_
          have h223 := h222.keep [(5, .int .i64 0), (4, .int .i64 0)] ⟨rfl, rfl, trivial⟩
          clear h222
          refine then_n ?_
          refine c_ret (by kernel_rfl) ?_
          refine ret2 (t := 4) (u := 5) (v := .int .i64 0) (v' := .int .i64 0) h223 (by kernel_rfl) (by kernel_rfl) (by kernel_rfl) ?_
          exact ⟨_, _, rfl, isin_r s false h0 0 hc183 rfl, hD189.bel⟩

set_option maxHeartbeats 4000000 in
set_option maxRecDepth 20000 in
theorem c63_1 (s : ByteArray) (w : World) : Calls Tryd.prog 63 #[.int .i64 1, .string s] w (fun e w' => ∃ at' E : Int, e = .returned (.tuple #[.int .i64 at', .int .i64 E]) ∧ (E == 0) = memB s ∧ Below w.heap.size w w') := by
  refine enter Tryd.func63 (by kernel_rfl) ?_ (by kernel_rfl)
  intro q0 h0
  replace h0 := h0.conv (l' := [(0, .int .i64 1), (1, .string s)]) rfl
  have hB := Bx.refl w
  refine c_seq (by kernel_rfl) ?_
  refine reg_plain [(0, false), (1, false)] (by kernel_rfl) (by kernel_rfl) ?_
  refine eE 0 4 (.assign (.const (.int .i64 0))) 3 (.int .i64 0) h0 fun q1 h2 => ?_
  clear h0
  refine eE 1 5 (.assign (.const (.int .i64 0))) 3 (.int .i64 0) h2 fun q3 h4 => ?_
  clear h2
  refine wpO_end ?_
  refine then_n ?_
  refine c_seq (by kernel_rfl) ?_
  refine c_seq (by kernel_rfl) ?_
  refine reg_plain [(0, false), (1, false), (2, false), (3, false), (4, false), (5, false)] (by kernel_rfl) (by kernel_rfl) ?_
  refine eE 0 9 (.move (.tmp 0)) 3 (.int .i64 1) h4 fun q5 h6 => ?_
  clear h4
  refine eE 1 10 (.binOp .lss 3 (.tmp 9) (.const (.int .i64 0)) 3) 4 (.bool false) h6 fun q7 h8 => ?_
  clear h6
  refine eE 2 11 (.move (.tmp 10)) 4 (.bool false) h8 fun q9 h10 => ?_
  clear h8
  refine eG 3 12 (.move (.tmp 0)) 3 (2, false) (.int .i64 1) (g2 11 (rfl : false = false)) h10 fun q11 h12 => ?_
  clear h10
  refine eG 4 13 (.binOp .gtr 3 (.tmp 12) (.const (.int .i64 3)) 3) 4 (2, false) (.bool false) (g2 11 (rfl : false = false)) h12 fun q13 h14 => ?_
  clear h12
  refine eE 5 14 (.pick (.tmp 11) (.const (.bool true)) (.tmp 13)) 4 (.bool false) h14 fun q15 h16 => ?_
  clear h14
  refine wpO_end ?_
  have h17 := h16.keep [(14, .bool false), (5, .int .i64 0), (4, .int .i64 0), (0, .int .i64 1), (1, .string s)] ⟨rfl, rfl, rfl, rfl, rfl, trivial⟩
  clear h16
  refine then_n ?_
  refine c_cond (t := 14) (b := false) h17 (by kernel_rfl) (by kernel_rfl) (fun e18 => Bool.noConfusion (e18.symm.trans (rfl))) (fun _ => ?_)
  refine c_skip (by kernel_rfl) ?_
  refine then_n ?_
  refine c_seq (by kernel_rfl) ?_
  refine reg_plain [(0, false), (1, false), (2, false), (3, false), (4, false), (5, false), (6, false)] (by kernel_rfl) (by kernel_rfl) ?_
  refine eE 0 16 (.move (.tmp 0)) 3 (.int .i64 1) h17 fun q19 h20 => ?_
  clear h17
  refine stC (i := 1) (d := 17) (op := Op.call { callee := Callee.value (Operand.func 70), args := #[Operand.tmp 16], argTypes := #[3] }) (ty := 92) (g := none) (f := 70) (args := #[.int .i64 1]) (w1 := w) h20 (by kernel_rfl) (by kernel_rfl) (by kernel_rfl) gok_none (by kernel_rfl) (c70_1 w) ?_
  rintro _ w23 ⟨rfl, hb24⟩
  have hB25 := hB.call hb24
  refine ⟨_, rfl, trivial, fun q21 h22 => ?_⟩
  clear h20 hB hb24
  refine eE 2 15 (.move (.tmp 17)) 92 (.tuple #[.int .i64 4, .int .i64 8]) h22 fun q26 h27 => ?_
  clear h22
  refine eE 3 18 (.extract (.tmp 15) 0) 3 (.int .i64 4) h27 fun q28 h29 => ?_
  clear h27
  refine eE 4 19 (.extract (.tmp 15) 1) 3 (.int .i64 8) h29 fun q30 h31 => ?_
  clear h29
  refine eE 5 6 (.assign (.tmp 18)) 3 (.int .i64 4) h31 fun q32 h33 => ?_
  clear h31
  refine eE 6 7 (.assign (.tmp 19)) 3 (.int .i64 8) h33 fun q34 h35 => ?_
  clear h33
  refine wpO_end ?_
  have h36 := h35.keep [(7, .int .i64 8), (6, .int .i64 4), (5, .int .i64 0), (4, .int .i64 0), (0, .int .i64 1), (1, .string s)] ⟨rfl, rfl, rfl, rfl, rfl, rfl, trivial⟩
  clear h35
  refine then_n ?_
  refine c_seq (by kernel_rfl) ?_
  refine c_seq (by kernel_rfl) ?_
  refine reg_plain [(0, false)] (by kernel_rfl) (by kernel_rfl) ?_
  refine eE 0 8 (.assign (.const (.int .i64 0))) 3 (.int .i64 0) h36 fun q37 h38 => ?_
  clear h36
  refine wpO_end ?_
  refine then_n ?_
  refine c_block 0 (by kernel_rfl) ?_
  refine c_loop (by kernel_rfl) (fun qa qw => ∃ k : Nat, (k ≤ s.size) ∧ Fr 75 [(0, .int .i64 1), (1, .string s), (4, .int .i64 0), (5, .int .i64 0), (6, .int .i64 4), (7, .int .i64 8), (8, .int .i64 ((k : Nat) : Int))] qa ∧ Bx w [] qw ∧ (∀ (j : Nat) (g : Nat) (c : UInt8), j < k → (clsOf sp1)[j]? = some g → s.data.toList[j]? = some c → clsB g (c.toNat : Int) = true)) (fun qa _ => (((s.size : Int)) - intAt qa 8).toNat) ⟨0, Nat.zero_le _, h38.keep _ ⟨rfl, rfl, rfl, rfl, rfl, rfl, rfl, trivial⟩, hB25, fun j _ _ hj => absurd hj (Nat.not_lt_zero _)⟩ ?_
  rintro q39 w40 ⟨k, hk43, h41, hB42, hx45⟩
  have hm44 := h41.int (k := 8) (kd := .i64) (z := ((k : Nat) : Int)) rfl
  clear h38 hB25
  refine c_seq (by kernel_rfl) ?_
  refine c_seq (by kernel_rfl) ?_
  refine reg_plain [(0, false), (1, false), (2, false), (3, false), (4, false), (5, false), (6, false), (7, false), (8, false)] (by kernel_rfl) (by kernel_rfl) ?_
  refine eE 0 20 (.move (.tmp 8)) 3 (.int .i64 ((k : Nat) : Int)) h41 fun q46 h47 => ?_
  clear h41
  refine eE 1 21 (.move (.tmp 1)) 9 (.string s) h47 fun q48 h49 => ?_
  clear h47
  refine eE 2 22 (.call { callee := .builtin .len, args := #[.tmp 21], argTypes := #[9] }) 3 (.int .i64 ((s.size : Nat) : Int)) h49 fun q50 h51 => ?_
  clear h49
  refine eE 3 23 (.binOp .lss 3 (.tmp 20) (.tmp 22) 3) 4 (.bool (decide (((k : Nat) : Int) < ((s.size : Nat) : Int)))) h51 fun q52 h53 => ?_
  clear h51
  refine eE 4 24 (.move (.tmp 23)) 4 (.bool (decide (((k : Nat) : Int) < ((s.size : Nat) : Int)))) h53 fun q54 h55 => ?_
  clear h53
  refine wpO_cut [(5, false), (6, false), (7, false), (8, false)] [] (fun qa qw => Fr 75 [(28, .bool ((decide (((k : Nat) : Int) < ((s.size : Nat) : Int))) && (decide (((k : Nat) : Int) < (8 : Int))))), (24, .bool (decide (((k : Nat) : Int) < ((s.size : Nat) : Int)))), (23, .bool (decide (((k : Nat) : Int) < ((s.size : Nat) : Int)))), (22, .int .i64 ((s.size : Nat) : Int)), (21, .string s), (20, .int .i64 ((k : Nat) : Int)), (0, .int .i64 1), (1, .string s), (4, .int .i64 0), (5, .int .i64 0), (6, .int .i64 4), (7, .int .i64 8), (8, .int .i64 ((k : Nat) : Int))] qa ∧ Bx w [] qw) ?_ ?_
  ·
    rcases Bool.eq_false_or_eq_true (decide (((k : Nat) : Int) < ((s.size : Nat) : Int))) with hc56 | hc56
    ·
      refine eG 5 25 (.move (.tmp 8)) 3 (4, true) (.int .i64 ((k : Nat) : Int)) (g1 24 hc56) h55 fun q57 h58 => ?_
      clear h55
      refine eG 6 26 (.move (.tmp 7)) 3 (4, true) (.int .i64 8) (g1 24 hc56) h58 fun q59 h60 => ?_
      clear h58
      refine eG 7 27 (.binOp .lss 3 (.tmp 25) (.tmp 26) 3) 4 (4, true) (.bool (decide (((k : Nat) : Int) < (8 : Int)))) (g1 24 hc56) h60 fun q61 h62 => ?_
      clear h60
      refine eE 8 28 (.pick (.tmp 24) (.tmp 27) (.const (.bool false))) 4 (.bool ((decide (((k : Nat) : Int) < ((s.size : Nat) : Int))) && (decide (((k : Nat) : Int) < (8 : Int))))) h62 (hr := r_and (c := decide (((k : Nat) : Int) < ((s.size : Nat) : Int))) (d := (decide (((k : Nat) : Int) < (8 : Int)))) (by kernel_rfl) (fun _ => by kernel_rfl)) fun q63 h64 => ?_
      clear h62
      exact ⟨h64.keep _ ⟨rfl, rfl, rfl, rfl, rfl, rfl, rfl, rfl, rfl, rfl, rfl, rfl, rfl, trivial⟩, hB42⟩
    ·
      refine kE 5 25 (4, true) (g3 24 hc56) h55 trivial fun q65 h66 => ?_
      clear h55
      refine kE 6 26 (4, true) (g3 24 hc56) h66 trivial fun q67 h68 => ?_
      clear h66
      refine kE 7 27 (4, true) (g3 24 hc56) h68 trivial fun q69 h70 => ?_
      clear h68
      refine eE 8 28 (.pick (.tmp 24) (.tmp 27) (.const (.bool false))) 4 (.bool ((decide (((k : Nat) : Int) < ((s.size : Nat) : Int))) && (decide (((k : Nat) : Int) < (8 : Int))))) h70 (hr := r_and (c := decide (((k : Nat) : Int) < ((s.size : Nat) : Int))) (d := (decide (((k : Nat) : Int) < (8 : Int)))) (by kernel_rfl) (fun e73 => Bool.noConfusion (e73.symm.trans hc56))) fun q71 h72 => ?_
      clear h70
      exact ⟨h72.keep _ ⟨rfl, rfl, rfl, rfl, rfl, rfl, rfl, rfl, rfl, rfl, rfl, rfl, rfl, trivial⟩, hB42⟩
  rintro q74 w75 ⟨h76, hB77⟩
  refine wpO_end ?_
  refine then_n ?_
  refine c_cond (t := 28) (b := (decide (((k : Nat) : Int) < ((s.size : Nat) : Int))) && (decide (((k : Nat) : Int) < (8 : Int)))) h76 (by kernel_rfl) (by kernel_rfl) (fun hc78 => ?_) (fun hc78 => ?_)
  ·
    have hlt : k < s.size ∧ k < 8 := by have := hc78; simp at this; omega
    obtain ⟨x, hx⟩ : ∃ x, (clsOf sp1)[k]? = some x := ⟨(clsOf sp1)[k]'hlt.2, List.getElem?_eq_getElem (show k < (clsOf sp1).length from hlt.2)⟩
    refine c_skip (by kernel_rfl) ?_
    refine then_n ?_
    refine c_seq (by kernel_rfl) ?_
    refine c_block 1 (by kernel_rfl) ?_
    refine c_seq (by kernel_rfl) ?_
    refine reg_plain [(0, false), (1, false), (2, false), (3, false), (4, false), (5, false), (6, false)] (by kernel_rfl) (by kernel_rfl) ?_
    refine eE 0 31 (.move (.tmp 0)) 3 (.int .i64 1) h76 fun q79 h80 => ?_
    clear h76
    refine eE 1 32 (.move (.tmp 8)) 3 (.int .i64 ((k : Nat) : Int)) h80 fun q81 h82 => ?_
    clear h80
    refine eE 2 33 (.move (.tmp 1)) 9 (.string s) h82 fun q83 h84 => ?_
    clear h82
    refine eE 3 34 (.move (.tmp 8)) 3 (.int .i64 ((k : Nat) : Int)) h84 fun q85 h86 => ?_
    clear h84
    refine eE 4 35 (.index 9 (.tmp 33) (.tmp 34)) 5 (.int .u8 (((chAt s k).toNat : Nat) : Int)) h86 (hr := r_indexS (kd := .i64) (i := k) (b := (chAt s k)) (by kernel_rfl) (by kernel_rfl) (getS (by omega)) (by kernel_rfl)) fun q87 h88 => ?_
    clear h86
    refine stC (i := 5) (d := 36) (op := Op.call { callee := Callee.value (Operand.func 71), args := #[Operand.tmp 31, Operand.tmp 32, Operand.tmp 35], argTypes := #[3, 3, 5] }) (ty := 4) (g := none) (f := 71) (args := #[.int .i64 1, .int .i64 ((k : Nat) : Int), .int .u8 (((chAt s k).toNat : Nat) : Int)]) (w1 := w75) h88 (by kernel_rfl) (by kernel_rfl) (by kernel_rfl) gok_none (by kernel_rfl) (c71_1 ((k : Nat) : Int) (((chAt s k).toNat : Nat) : Int) w75) ?_
    rintro _ w91 ⟨rfl, hb92⟩
    have hB93 := hB77.call hb92
    refine ⟨_, rfl, trivial, fun q89 h90 => ?_⟩
    clear h88 hB77 hb92
    refine eE 6 37 (.unOp .not 4 (.tmp 36)) 4 (.bool (!(mayB 1 ((k : Nat) : Int) (((chAt s k).toNat : Nat) : Int)))) h90 fun q94 h95 => ?_
    clear h90
    refine wpO_end ?_
    refine then_n ?_
    refine c_cond (t := 37) (b := !(mayB 1 ((k : Nat) : Int) (((chAt s k).toNat : Nat) : Int))) h95 (by kernel_rfl) (by kernel_rfl) (fun hc96 => ?_) (fun hc96 => ?_)
    ·
      rw [may_cls 1 (by decide) k x _ hx] at hc96
      refine c_seq (by kernel_rfl) ?_
      refine reg_plain [(0, false), (1, false), (2, false)] (by kernel_rfl) (by kernel_rfl) ?_
      refine eE 0 38 (.move (.tmp 8)) 3 (.int .i64 ((k : Nat) : Int)) h95 fun q97 h98 => ?_
      clear h95
      refine eE 1 4 (.assign (.tmp 38)) 3 (.int .i64 ((k : Nat) : Int)) h98 fun q99 h100 => ?_
      clear h98
      refine eE 2 5 (.assign (.const (.int .i64 3))) 3 (.int .i64 3) h100 fun q101 h102 => ?_
      clear h100
      refine wpO_end ?_
      have h103 := h102.keep [(5, .int .i64 3), (4, .int .i64 ((k : Nat) : Int)), (38, .int .i64 ((k : Nat) : Int)), (37, .bool (!(mayB 1 ((k : Nat) : Int) (((chAt s k).toNat : Nat) : Int)))), (36, .bool (mayB 1 ((k : Nat) : Int) (((chAt s k).toNat : Nat) : Int))), (35, .int .u8 (((chAt s k).toNat : Nat) : Int)), (34, .int .i64 ((k : Nat) : Int)), (33, .string s), (32, .int .i64 ((k : Nat) : Int)), (31, .int .i64 1), (28, .bool ((decide (((k : Nat) : Int) < ((s.size : Nat) : Int))) && (decide (((k : Nat) : Int) < (8 : Int))))), (24, .bool (decide (((k : Nat) : Int) < ((s.size : Nat) : Int)))), (23, .bool (decide (((k : Nat) : Int) < ((s.size : Nat) : Int)))), (22, .int .i64 ((s.size : Nat) : Int)), (21, .string s), (20, .int .i64 ((k : Nat) : Int)), (0, .int .i64 1), (1, .string s), (6, .int .i64 4), (7, .int .i64 8), (8, .int .i64 ((k : Nat) : Int))] ⟨rfl, rfl, rfl, rfl, rfl, rfl, rfl, rfl, rfl, rfl, rfl, rfl, rfl, rfl, rfl, rfl, rfl, rfl, rfl, rfl, rfl, trivial⟩
      clear h102
      refine then_n ?_
      refine c_ret (by kernel_rfl) ?_
      refine inB_r (then_r (then_r (inB_r (then_r ?_))))
      refine ret2 (t := 4) (u := 5) (v := .int .i64 ((k : Nat) : Int)) (v' := .int .i64 3) h103 (by kernel_rfl) (by kernel_rfl) (by kernel_rfl) ?_
      exact ⟨_, _, rfl, refb_bad1 s (pfx_bad (sh := 4) hx (by rw [decide_eq_true (by omega), Bool.true_and]; exact hc96)), hB93.bel⟩
    ·
      rw [may_cls 1 (by decide) k x _ hx] at hc96
      refine c_skip (by kernel_rfl) ?_
      refine inB_n ?_
      refine then_n ?_
      refine reg_plain [(0, false), (1, false), (2, false)] (by kernel_rfl) (by kernel_rfl) ?_
      refine eE 0 29 (.move (.tmp 8)) 3 (.int .i64 ((k : Nat) : Int)) h95 fun q104 h105 => ?_
      clear h95
      refine eE 1 30 (.binOp .add 3 (.tmp 29) (.const (.int .i64 1)) 3) 3 (.int .i64 (IntKind.i64.wrap (((k : Nat) : Int) + 1))) h105 fun q106 h107 => ?_
      clear h105
      refine eE 2 8 (.assign (.tmp 30)) 3 (.int .i64 (IntKind.i64.wrap (((k : Nat) : Int) + 1))) h107 fun q108 h109 => ?_
      clear h107
      refine wpO_end ?_
      have h110 := h109.keep [(8, .int .i64 (IntKind.i64.wrap (((k : Nat) : Int) + 1))), (30, .int .i64 (IntKind.i64.wrap (((k : Nat) : Int) + 1))), (29, .int .i64 ((k : Nat) : Int)), (37, .bool (!(mayB 1 ((k : Nat) : Int) (((chAt s k).toNat : Nat) : Int)))), (36, .bool (mayB 1 ((k : Nat) : Int) (((chAt s k).toNat : Nat) : Int))), (35, .int .u8 (((chAt s k).toNat : Nat) : Int)), (34, .int .i64 ((k : Nat) : Int)), (33, .string s), (32, .int .i64 ((k : Nat) : Int)), (31, .int .i64 1), (28, .bool ((decide (((k : Nat) : Int) < ((s.size : Nat) : Int))) && (decide (((k : Nat) : Int) < (8 : Int))))), (24, .bool (decide (((k : Nat) : Int) < ((s.size : Nat) : Int)))), (23, .bool (decide (((k : Nat) : Int) < ((s.size : Nat) : Int)))), (22, .int .i64 ((s.size : Nat) : Int)), (21, .string s), (20, .int .i64 ((k : Nat) : Int)), (0, .int .i64 1), (1, .string s), (4, .int .i64 0), (5, .int .i64 0), (6, .int .i64 4), (7, .int .i64 8)] ⟨rfl, rfl, rfl, rfl, rfl, rfl, rfl, rfl, rfl, rfl, rfl, rfl, rfl, rfl, rfl, rfl, rfl, rfl, rfl, rfl, rfl, rfl, trivial⟩
      clear h109
      have h111 := h110.keep [(0, .int .i64 1), (1, .string s), (4, .int .i64 0), (5, .int .i64 0), (6, .int .i64 4), (7, .int .i64 8), (8, .int .i64 (((k + 1) : Nat) : Int))] ⟨rfl, rfl, rfl, rfl, rfl, rfl, look_int rfl (wrap_succ (by have := hlt.2; omega)), trivial⟩
      have hm112 := h111.int (k := 8) (kd := .i64) (z := (((k + 1) : Nat) : Int)) rfl
      refine then_n ⟨⟨k + 1, by omega, h111, hB93, pfx_step hx45 hx (by rw [decide_eq_true (by omega), Bool.true_and]; exact hc96)⟩, ?_⟩
      show (((s.size : Int)) - intAt _ 8).toNat < (((s.size : Int)) - intAt _ 8).toNat
      rw [hm44, hm112]; omega
  ·
    have hend : s.size ≤ k ∨ 8 ≤ k := by have := hc78; simp at this; omega
    have hpf := pfx_ok2 (cl := (clsOf sp1)) (sh := 4) hx45 hend
    refine c_exit 0 (by kernel_rfl) ?_
    refine then_e (then_e (inB_hit ?_))
    refine then_n ?_
    refine c_seq (by kernel_rfl) ?_
    refine c_seq (by kernel_rfl) ?_
    refine reg_plain [(0, false), (1, false), (2, false), (3, false)] (by kernel_rfl) (by kernel_rfl) ?_
    refine eE 0 39 (.move (.tmp 1)) 9 (.string s) h76 fun q113 h114 => ?_
    clear h76
    refine eE 1 40 (.call { callee := .builtin .len, args := #[.tmp 39], argTypes := #[9] }) 3 (.int .i64 ((s.size : Nat) : Int)) h114 fun q115 h116 => ?_
    clear h114
    refine eE 2 41 (.move (.tmp 6)) 3 (.int .i64 4) h116 fun q117 h118 => ?_
    clear h116
    refine eE 3 42 (.binOp .lss 3 (.tmp 40) (.tmp 41) 3) 4 (.bool (decide (((s.size : Nat) : Int) < (4 : Int)))) h118 fun q119 h120 => ?_
    clear h118
    refine wpO_end ?_
    have h121 := h120.keep [(42, .bool (decide (((s.size : Nat) : Int) < (4 : Int)))), (0, .int .i64 1), (1, .string s), (4, .int .i64 0), (5, .int .i64 0), (7, .int .i64 8)] ⟨rfl, rfl, rfl, rfl, rfl, rfl, trivial⟩
    clear h120
    refine then_n ?_
    refine c_cond (t := 42) (b := decide (((s.size : Nat) : Int) < (4 : Int))) h121 (by kernel_rfl) (by kernel_rfl) (fun hc122 => ?_) (fun hc122 => ?_)
    ·
      have hp123 : (((s.size : Nat) : Int) < (4 : Int)) := of_decide_eq_true hc122
      refine c_seq (by kernel_rfl) ?_
      refine reg_plain [(0, false), (1, false), (2, false), (3, false)] (by kernel_rfl) (by kernel_rfl) ?_
      refine eE 0 43 (.move (.tmp 1)) 9 (.string s) h121 fun q124 h125 => ?_
      clear h121
      refine eE 1 44 (.call { callee := .builtin .len, args := #[.tmp 43], argTypes := #[9] }) 3 (.int .i64 ((s.size : Nat) : Int)) h125 fun q126 h127 => ?_
      clear h125
      refine eE 2 4 (.assign (.tmp 44)) 3 (.int .i64 ((s.size : Nat) : Int)) h127 fun q128 h129 => ?_
      clear h127
      refine eE 3 5 (.assign (.const (.int .i64 4))) 3 (.int .i64 4) h129 fun q130 h131 => ?_
      clear h129
      refine wpO_end ?_
      have h132 := h131.keep [(5, .int .i64 4), (4, .int .i64 ((s.size : Nat) : Int)), (0, .int .i64 1), (1, .string s), (7, .int .i64 8)] ⟨rfl, rfl, rfl, rfl, rfl, trivial⟩
      clear h131
      refine then_n ?_
      refine c_ret (by kernel_rfl) ?_
      refine then_r ?_
      refine ret2 (t := 4) (u := 5) (v := .int .i64 ((s.size : Nat) : Int)) (v' := .int .i64 4) h132 (by kernel_rfl) (by kernel_rfl) (by kernel_rfl) ?_
      exact ⟨_, _, rfl, refb_bad1 s (show pfxE (clsOf sp1) 4 s = 4 from hpf.trans (cT hc122)), hB77.bel⟩
    ·
      have hp133 : ¬ (((s.size : Nat) : Int) < (4 : Int)) := of_decide_eq_false hc122
      refine c_skip (by kernel_rfl) ?_
      refine then_n ?_
      refine c_seq (by kernel_rfl) ?_
      refine c_seq (by kernel_rfl) ?_
      refine reg_plain [(0, false), (1, false), (2, false), (3, false)] (by kernel_rfl) (by kernel_rfl) ?_
      refine eE 0 45 (.move (.tmp 1)) 9 (.string s) h121 fun q134 h135 => ?_
      clear h121
      refine eE 1 46 (.call { callee := .builtin .len, args := #[.tmp 45], argTypes := #[9] }) 3 (.int .i64 ((s.size : Nat) : Int)) h135 fun q136 h137 => ?_
      clear h135
      refine eE 2 47 (.move (.tmp 7)) 3 (.int .i64 8) h137 fun q138 h139 => ?_
      clear h137
      refine eE 3 48 (.binOp .gtr 3 (.tmp 46) (.tmp 47) 3) 4 (.bool (decide ((8 : Int) < ((s.size : Nat) : Int)))) h139 fun q140 h141 => ?_
      clear h139
      refine wpO_end ?_
      have h142 := h141.keep [(48, .bool (decide ((8 : Int) < ((s.size : Nat) : Int)))), (0, .int .i64 1), (1, .string s), (4, .int .i64 0), (5, .int .i64 0), (7, .int .i64 8)] ⟨rfl, rfl, rfl, rfl, rfl, rfl, trivial⟩
      clear h141
      refine then_n ?_
      refine c_cond (t := 48) (b := decide ((8 : Int) < ((s.size : Nat) : Int))) h142 (by kernel_rfl) (by kernel_rfl) (fun hc143 => ?_) (fun hc143 => ?_)
      ·
        have hp144 : ((8 : Int) < ((s.size : Nat) : Int)) := of_decide_eq_true hc143
        refine c_seq (by kernel_rfl) ?_
        refine reg_plain [(0, false), (1, false), (2, false)] (by kernel_rfl) (by kernel_rfl) ?_
        refine eE 0 49 (.move (.tmp 7)) 3 (.int .i64 8) h142 fun q145 h146 => ?_
        clear h142
        refine eE 1 4 (.assign (.tmp 49)) 3 (.int .i64 8) h146 fun q147 h148 => ?_
        clear h146
        refine eE 2 5 (.assign (.const (.int .i64 5))) 3 (.int .i64 5) h148 fun q149 h150 => ?_
        clear h148
        refine wpO_end ?_
        have h151 := h150.keep [(5, .int .i64 5), (4, .int .i64 8), (0, .int .i64 1), (1, .string s)] ⟨rfl, rfl, rfl, rfl, trivial⟩
        clear h150
        refine then_n ?_
        refine c_ret (by kernel_rfl) ?_
        refine then_r ?_
        refine ret2 (t := 4) (u := 5) (v := .int .i64 8) (v' := .int .i64 5) h151 (by kernel_rfl) (by kernel_rfl) (by kernel_rfl) ?_
        exact ⟨_, _, rfl, refb_bad1 s (show pfxE (clsOf sp1) 4 s = 5 from hpf.trans ((cF hc122).trans (cT hc143))), hB77.bel⟩
      ·
        have hp152 : ¬ ((8 : Int) < ((s.size : Nat) : Int)) := of_decide_eq_false hc143
        refine c_skip (by kernel_rfl) ?_
        refine then_n ?_
        refine c_seq (by kernel_rfl) ?_
        refine c_seq (by kernel_rfl) ?_
        have hD153 := hB77.drew
        refine reg_draw (S := Bx w []) 12 [⟨0, true, 0, 1, 1125899906842624⟩, ⟨1, true, 1, 1125899906842624, 2251799813685248⟩, ⟨2, true, 2, 2251799813685248, 4503599627370496⟩, ⟨3, true, 4, 4503599627370498, 9007199254740992⟩, ⟨4, true, 12, 13510798882111488, 18014398509481984⟩, ⟨5, true, 20, 22517998136852480, 36028797018963968⟩, ⟨6, true, 36, 40532396646334464, 72057594037927936⟩, ⟨7, true, 4, 4503599627370498, 144115188075855872⟩, ⟨8, true, 132, 148618787703226368, 288230376151711744⟩, ⟨9, false, 260, 292733975779082240, 576460752303423488⟩, ⟨10, true, 580, 653021945968721920, 1152921504606846976⟩, ⟨11, true, 1028, 1157425104234217472, 2305843009213693952⟩] [(0, true), (1, true), (2, true), (3, true), (4, true), (5, true), (6, true), (7, true), (8, true), (9, false), (10, true), (11, true)] (by kernel_rfl) (by kernel_rfl) (by kernel_rfl) (by kernel_rfl) (fun _ _ _ _ h => absurd h.2 (by simp)) hD153 ?_
        generalize World.drew w75 = w154 at hD153 ⊢
        refine fE 0 50 (.move (.tmp 0)) 3 (.int .i64 1) h142 fun q155 h156 => ?_
        clear h142
        refine fE 1 51 (.binOp .eql 3 (.tmp 50) (.const (.int .i64 0)) 3) 4 (.bool false) h156 fun q157 h158 => ?_
        clear h156
        refine fE 2 52 (.move (.tmp 51)) 4 (.bool false) h158 fun q159 h160 => ?_
        clear h158
        refine kF 3 53 (2, true) (g3 52 (rfl : false = false)) h160 fun q161 h162 => ?_
        clear h160
        refine kF 4 54 (2, true) (g3 52 (rfl : false = false)) h162 fun q163 h164 => ?_
        clear h162
        refine kF 5 55 (2, true) (g3 52 (rfl : false = false)) h164 fun q165 h166 => ?_
        clear h164
        refine kF 6 56 (2, true) (g3 52 (rfl : false = false)) h166 fun q167 h168 => ?_
        clear h166
        refine kF 7 57 (2, true) (g3 52 (rfl : false = false)) h168 fun q169 h170 => ?_
        clear h168
        refine kF 8 58 (2, true) (g3 52 (rfl : false = false)) h170 fun q171 h172 => ?_
        clear h170
        refine kE 9 59 (2, true) (g3 52 (rfl : false = false)) h172 hD153 fun q173 h174 => ?_
        clear h172
        refine kF 10 60 (2, true) (g3 52 (rfl : false = false)) h174 fun q175 h176 => ?_
        clear h174
        refine fE 11 61 (.pick (.tmp 52) (.tmp 60) (.const (.bool false))) 4 (.bool false) h176 fun q177 h178 => ?_
        clear h176
        refine wpO_end ?_
        have h179 := h178.keep [(61, .bool false), (0, .int .i64 1), (1, .string s), (4, .int .i64 0), (5, .int .i64 0)] ⟨rfl, rfl, rfl, rfl, rfl, trivial⟩
        clear h178
        refine then_n ?_
        refine c_cond (t := 61) (b := false) h179 (by kernel_rfl) (by kernel_rfl) (fun e180 => Bool.noConfusion (e180.symm.trans (rfl))) (fun _ => ?_)
        refine c_skip (by kernel_rfl) ?_
        refine then_n ?_
        refine c_seq (by kernel_rfl) ?_
        refine c_seq (by kernel_rfl) ?_
        have hD181 := hD153.drew
        refine reg_draw (S := Bx w []) 13 [⟨0, true, 0, 1, 4611686018427387904⟩, ⟨1, true, 1, 4611686018427387904, 9223372036854775808⟩, ⟨2, true, 2, 9223372036854775808, 18446744073709551616⟩, ⟨3, true, 4, 18446744073709551618, 36893488147419103232⟩, ⟨4, true, 12, 55340232221128654848, 73786976294838206464⟩, ⟨5, true, 4, 18446744073709551618, 147573952589676412928⟩, ⟨6, true, 36, 166020696663385964544, 295147905179352825856⟩, ⟨7, true, 68, 313594649253062377472, 590295810358705651712⟩, ⟨8, false, 132, 608742554432415203328, 1180591620717411303424⟩, ⟨9, true, 260, 1199038364791120855040, 2361183241434822606848⟩, ⟨10, false, 772, 2379629985508532158464, 4722366482869645213696⟩, ⟨11, true, 1044, 4814600203238192971776, 9444732965739290427392⟩, ⟨12, true, 2052, 9463179709812999979008, 18889465931478580854784⟩] [(0, true), (1, true), (2, true), (3, true), (4, true), (5, true), (6, true), (7, true), (8, false), (9, true), (10, false), (11, true), (12, true)] (by kernel_rfl) (by kernel_rfl) (by kernel_rfl) (by kernel_rfl) (fun _ _ _ _ h => absurd h.2 (by simp)) hD181 ?_
        generalize World.drew w154 = w182 at hD181 ⊢
        refine fE 0 62 (.move (.tmp 0)) 3 (.int .i64 1) h179 fun q183 h184 => ?_
        clear h179
        refine fE 1 63 (.binOp .eql 3 (.tmp 62) (.const (.int .i64 3)) 3) 4 (.bool false) h184 fun q185 h186 => ?_
        clear h184
        refine fE 2 64 (.move (.tmp 63)) 4 (.bool false) h186 fun q187 h188 => ?_
        clear h186
        refine kF 3 65 (2, true) (g3 64 (rfl : false = false)) h188 fun q189 h190 => ?_
        clear h188
        refine kF 4 66 (2, true) (g3 64 (rfl : false = false)) h190 fun q191 h192 => ?_
        clear h190
        refine kF 5 67 (2, true) (g3 64 (rfl : false = false)) h192 fun q193 h194 => ?_
        clear h192
        refine kF 6 68 (2, true) (g3 64 (rfl : false = false)) h194 fun q195 h196 => ?_
        clear h194
        refine kF 7 69 (2, true) (g3 64 (rfl : false = false)) h196 fun q197 h198 => ?_
        clear h196
        refine kE 8 70 (2, true) (g3 64 (rfl : false = false)) h198 hD181 fun q199 h200 => ?_
        clear h198
        refine kF 9 71 (2, true) (g3 64 (rfl : false = false)) h200 fun q201 h202 => ?_
        clear h200
        refine kE 10 72 (2, true) (g3 64 (rfl : false = false)) h202 hD181 fun q203 h204 => ?_
        clear h202
        refine kF 11 73 (2, true) (g3 64 (rfl : false = false)) h204 fun q205 h206 => ?_
        clear h204
        refine fE 12 74 (.pick (.tmp 64) (.tmp 73) (.const (.bool false))) 4 (.bool false) h206 fun q207 h208 => ?_
        clear h206
        refine wpO_end ?_
        have h209 := h208.keep [(74, .bool false), (4, .int .i64 0), (5, .int .i64 0)] ⟨rfl, rfl, rfl, trivial⟩
        clear h208
        refine then_n ?_
        refine c_cond (t := 74) (b := false) h209 (by kernel_rfl) (by kernel_rfl) (fun e210 => Bool.noConfusion (e210.symm.trans (rfl))) (fun _ => ?_)
        refine c_skip (by kernel_rfl) ?_
        refine then_n ?_
        refine c_seq (by kernel_rfl) ?_
        refine reg_plain [(0, false), (1, false)] (by kernel_rfl) (by kernel_rfl) ?_
        refine eE 0 4 (.assign (.const (.int .i64 0))) 3 (.int .i64 0) h209 fun q211 h212 => ?_
        clear h209
        refine eE 1 5 (.assign (.const (.int .i64 0))) 3 (.int .i64 0) h212 fun q213 h214 => ?_
        clear h212
        refine wpO_end ?_
        have h215 := h214.keep [(5, .int .i64 0), (4, .int .i64 0)] ⟨rfl, rfl, trivial⟩
        clear h214
        refine then_n ?_
        refine c_ret (by kernel_rfl) ?_
        refine ret2 (t := 4) (u := 5) (v := .int .i64 0) (v' := .int .i64 0) h215 (by kernel_rfl) (by kernel_rfl) (by kernel_rfl) ?_
        exact ⟨_, _, rfl, refb_ok1 s (hpf.trans ((cF hc122).trans (cF hc143))), hD181.bel⟩

set_option maxHeartbeats 4000000 in
set_option maxRecDepth 20000 in
theorem c63_2 (s : ByteArray) (w : World) : Calls Tryd.prog 63 #[.int .i64 2, .string s] w (fun e w' => ∃ at' E : Int, e = .returned (.tuple #[.int .i64 at', .int .i64 E]) ∧ (E == 0) = rfB s ∧ Below w.heap.size w w') := by
  refine enter Tryd.func63 (by kernel_rfl) ?_ (by kernel_rfl)
  intro q0 h0
  replace h0 := h0.conv (l' := [(0, .int .i64 2), (1, .string s)]) rfl
  have hB := Bx.refl w
  refine c_seq (by kernel_rfl) ?_
  refine reg_plain [(0, false), (1, false)] (by kernel_rfl) (by kernel_rfl) ?_
  refine eE 0 4 (.assign (.const (.int .i64 0))) 3 (.int .i64 0) h0 fun q1 h2 => ?_
  clear h0
  refine eE 1 5 (.assign (.const (.int .i64 0))) 3 (.int .i64 0) h2 fun q3 h4 => ?_
  clear h2
  refine wpO_end ?_
  refine then_n ?_
  refine c_seq (by kernel_rfl) ?_
  refine c_seq (by kernel_rfl) ?_
  refine reg_plain [(0, false), (1, false), (2, false), (3, false), (4, false), (5, false)] (by kernel_rfl) (by kernel_rfl) ?_
  refine eE 0 9 (.move (.tmp 0)) 3 (.int .i64 2) h4 fun q5 h6 => ?_
  clear h4
  refine eE 1 10 (.binOp .lss 3 (.tmp 9) (.const (.int .i64 0)) 3) 4 (.bool false) h6 fun q7 h8 => ?_
  clear h6
  refine eE 2 11 (.move (.tmp 10)) 4 (.bool false) h8 fun q9 h10 => ?_
  clear h8
  refine eG 3 12 (.move (.tmp 0)) 3 (2, false) (.int .i64 2) (g2 11 (rfl : false = false)) h10 fun q11 h12 => ?_
  clear h10
  refine eG 4 13 (.binOp .gtr 3 (.tmp 12) (.const (.int .i64 3)) 3) 4 (2, false) (.bool false) (g2 11 (rfl : false = false)) h12 fun q13 h14 => ?_
  clear h12
  refine eE 5 14 (.pick (.tmp 11) (.const (.bool true)) (.tmp 13)) 4 (.bool false) h14 fun q15 h16 => ?_
  clear h14
  refine wpO_end ?_
  have h17 := h16.keep [(14, .bool false), (5, .int .i64 0), (4, .int .i64 0), (0, .int .i64 2), (1, .string s)] ⟨rfl, rfl, rfl, rfl, rfl, trivial⟩
  clear h16
  refine then_n ?_
  refine c_cond (t := 14) (b := false) h17 (by kernel_rfl) (by kernel_rfl) (fun e18 => Bool.noConfusion (e18.symm.trans (rfl))) (fun _ => ?_)
  refine c_skip (by kernel_rfl) ?_
  refine then_n ?_
  refine c_seq (by kernel_rfl) ?_
  refine reg_plain [(0, false), (1, false), (2, false), (3, false), (4, false), (5, false), (6, false)] (by kernel_rfl) (by kernel_rfl) ?_
  refine eE 0 16 (.move (.tmp 0)) 3 (.int .i64 2) h17 fun q19 h20 => ?_
  clear h17
  refine stC (i := 1) (d := 17) (op := Op.call { callee := Callee.value (Operand.func 70), args := #[Operand.tmp 16], argTypes := #[3] }) (ty := 92) (g := none) (f := 70) (args := #[.int .i64 2]) (w1 := w) h20 (by kernel_rfl) (by kernel_rfl) (by kernel_rfl) gok_none (by kernel_rfl) (c70_2 w) ?_
  rintro _ w23 ⟨rfl, hb24⟩
  have hB25 := hB.call hb24
  refine ⟨_, rfl, trivial, fun q21 h22 => ?_⟩
  clear h20 hB hb24
  refine eE 2 15 (.move (.tmp 17)) 92 (.tuple #[.int .i64 1, .int .i64 16]) h22 fun q26 h27 => ?_
  clear h22
  refine eE 3 18 (.extract (.tmp 15) 0) 3 (.int .i64 1) h27 fun q28 h29 => ?_
  clear h27
  refine eE 4 19 (.extract (.tmp 15) 1) 3 (.int .i64 16) h29 fun q30 h31 => ?_
  clear h29
  refine eE 5 6 (.assign (.tmp 18)) 3 (.int .i64 1) h31 fun q32 h33 => ?_
  clear h31
  refine eE 6 7 (.assign (.tmp 19)) 3 (.int .i64 16) h33 fun q34 h35 => ?_
  clear h33
  refine wpO_end ?_
  have h36 := h35.keep [(7, .int .i64 16), (6, .int .i64 1), (5, .int .i64 0), (4, .int .i64 0), (0, .int .i64 2), (1, .string s)] ⟨rfl, rfl, rfl, rfl, rfl, rfl, trivial⟩
  clear h35
  refine then_n ?_
  refine c_seq (by kernel_rfl) ?_
  refine c_seq (by kernel_rfl) ?_
  refine reg_plain [(0, false)] (by kernel_rfl) (by kernel_rfl) ?_
  refine eE 0 8 (.assign (.const (.int .i64 0))) 3 (.int .i64 0) h36 fun q37 h38 => ?_
  clear h36
  refine wpO_end ?_
  refine then_n ?_
  refine c_block 0 (by kernel_rfl) ?_
  refine c_loop (by kernel_rfl) (fun qa qw => ∃ k : Nat, (k ≤ s.size) ∧ Fr 75 [(0, .int .i64 2), (1, .string s), (4, .int .i64 0), (5, .int .i64 0), (6, .int .i64 1), (7, .int .i64 16), (8, .int .i64 ((k : Nat) : Int))] qa ∧ Bx w [] qw ∧ (∀ (j : Nat) (g : Nat) (c : UInt8), j < k → (clsOf sp2)[j]? = some g → s.data.toList[j]? = some c → clsB g (c.toNat : Int) = true)) (fun qa _ => (((s.size : Int)) - intAt qa 8).toNat) ⟨0, Nat.zero_le _, h38.keep _ ⟨rfl, rfl, rfl, rfl, rfl, rfl, rfl, trivial⟩, hB25, fun j _ _ hj => absurd hj (Nat.not_lt_zero _)⟩ ?_
  rintro q39 w40 ⟨k, hk43, h41, hB42, hx45⟩
  have hm44 := h41.int (k := 8) (kd := .i64) (z := ((k : Nat) : Int)) rfl
  clear h38 hB25
  refine c_seq (by kernel_rfl) ?_
  refine c_seq (by kernel_rfl) ?_
  refine reg_plain [(0, false), (1, false), (2, false), (3, false), (4, false), (5, false), (6, false), (7, false), (8, false)] (by kernel_rfl) (by kernel_rfl) ?_
  refine eE 0 20 (.move (.tmp 8)) 3 (.int .i64 ((k : Nat) : Int)) h41 fun q46 h47 => ?_
  clear h41
  refine eE 1 21 (.move (.tmp 1)) 9 (.string s) h47 fun q48 h49 => ?_
  clear h47
  refine eE 2 22 (.call { callee := .builtin .len, args := #[.tmp 21], argTypes := #[9] }) 3 (.int .i64 ((s.size : Nat) : Int)) h49 fun q50 h51 => ?_
  clear h49
  refine eE 3 23 (.binOp .lss 3 (.tmp 20) (.tmp 22) 3) 4 (.bool (decide (((k : Nat) : Int) < ((s.size : Nat) : Int)))) h51 fun q52 h53 => ?_
  clear h51
  refine eE 4 24 (.move (.tmp 23)) 4 (.bool (decide (((k : Nat) : Int) < ((s.size : Nat) : Int)))) h53 fun q54 h55 => ?_
  clear h53
  refine wpO_cut [(5, false), (6, false), (7, false), (8, false)] [] (fun qa qw => Fr 75 [(28, .bool ((decide (((k : Nat) : Int) < ((s.size : Nat) : Int))) && (decide (((k : Nat) : Int) < (16 : Int))))), (24, .bool (decide (((k : Nat) : Int) < ((s.size : Nat) : Int)))), (23, .bool (decide (((k : Nat) : Int) < ((s.size : Nat) : Int)))), (22, .int .i64 ((s.size : Nat) : Int)), (21, .string s), (20, .int .i64 ((k : Nat) : Int)), (0, .int .i64 2), (1, .string s), (4, .int .i64 0), (5, .int .i64 0), (6, .int .i64 1), (7, .int .i64 16), (8, .int .i64 ((k : Nat) : Int))] qa ∧ Bx w [] qw) ?_ ?_
  ·
    rcases Bool.eq_false_or_eq_true (decide (((k : Nat) : Int) < ((s.size : Nat) : Int))) with hc56 | hc56
    ·
      refine eG 5 25 (.move (.tmp 8)) 3 (4, true) (.int .i64 ((k : Nat) : Int)) (g1 24 hc56) h55 fun q57 h58 => ?_
      clear h55
      refine eG 6 26 (.move (.tmp 7)) 3 (4, true) (.int .i64 16) (g1 24 hc56) h58 fun q59 h60 => ?_
      clear h58
      refine eG 7 27 (.binOp .lss 3 (.tmp 25) (.tmp 26) 3) 4 (4, true) (.bool (decide (((k : Nat) : Int) < (16 : Int)))) (g1 24 hc56) h60 fun q61 h62 => ?_
      clear h60
      refine eE 8 28 (.pick (.tmp 24) (.tmp 27) (.const (.bool false))) 4 (.bool ((decide (((k : Nat) : Int) < ((s.size : Nat) : Int))) && (decide (((k : Nat) : Int) < (16 : Int))))) h62 (hr := r_and (c := decide (((k : Nat) : Int) < ((s.size : Nat) : Int))) (d := (decide (((k : Nat) : Int) < (16 : Int)))) (by kernel_rfl) (fun _ => by kernel_rfl)) fun q63 h64 => ?_
      clear h62
      exact ⟨h64.keep _ ⟨rfl, rfl, rfl, rfl, rfl, rfl, rfl, rfl, rfl, rfl, rfl, rfl, rfl, trivial⟩, hB42⟩
    ·
      refine kE 5 25 (4, true) (g3 24 hc56) h55 trivial fun q65 h66 => ?_
      clear h55
      refine kE 6 26 (4, true) (g3 24 hc56) h66 trivial fun q67 h68 => ?_
      clear h66
      refine kE 7 27 (4, true) (g3 24 hc56) h68 trivial fun q69 h70 => ?_
      clear h68
      refine eE 8 28 (.pick (.tmp 24) (.tmp 27) (.const (.bool false))) 4 (.bool ((decide (((k : Nat) : Int) < ((s.size : Nat) : Int))) && (decide (((k : Nat) : Int) < (16 : Int))))) h70 (hr := r_and (c := decide (((k : Nat) : Int) < ((s.size : Nat) : Int))) (d := (decide (((k : Nat) : Int) < (16 : Int)))) (by kernel_rfl) (fun e73 => Bool.noConfusion (e73.symm.trans hc56))) fun q71 h72 => ?_
      clear h70
      exact ⟨h72.keep _ ⟨rfl, rfl, rfl, rfl, rfl, rfl, rfl, rfl, rfl, rfl, rfl, rfl, rfl, trivial⟩, hB42⟩
  rintro q74 w75 ⟨h76, hB77⟩
  refine wpO_end ?_
  refine then_n ?_
  refine c_cond (t := 28) (b := (decide (((k : Nat) : Int) < ((s.size : Nat) : Int))) && (decide (((k : Nat) : Int) < (16 : Int)))) h76 (by kernel_rfl) (by kernel_rfl) (fun hc78 => ?_) (fun hc78 => ?_)
  ·
    have hlt : k < s.size ∧ k < 16 := by have := hc78; simp at this; omega
    obtain ⟨x, hx⟩ : ∃ x, (clsOf sp2)[k]? = some x := ⟨(clsOf sp2)[k]'hlt.2, List.getElem?_eq_getElem (show k < (clsOf sp2).length from hlt.2)⟩
    refine c_skip (by kernel_rfl) ?_
    refine then_n ?_
    refine c_seq (by kernel_rfl) ?_
    refine c_block 1 (by kernel_rfl) ?_
    refine c_seq (by kernel_rfl) ?_
    refine reg_plain [(0, false), (1, false), (2, false), (3, false), (4, false), (5, false), (6, false)] (by kernel_rfl) (by kernel_rfl) ?_
    refine eE 0 31 (.move (.tmp 0)) 3 (.int .i64 2) h76 fun q79 h80 => ?_
    clear h76
    refine eE 1 32 (.move (.tmp 8)) 3 (.int .i64 ((k : Nat) : Int)) h80 fun q81 h82 => ?_
    clear h80
    refine eE 2 33 (.move (.tmp 1)) 9 (.string s) h82 fun q83 h84 => ?_
    clear h82
    refine eE 3 34 (.move (.tmp 8)) 3 (.int .i64 ((k : Nat) : Int)) h84 fun q85 h86 => ?_
    clear h84
    refine eE 4 35 (.index 9 (.tmp 33) (.tmp 34)) 5 (.int .u8 (((chAt s k).toNat : Nat) : Int)) h86 (hr := r_indexS (kd := .i64) (i := k) (b := (chAt s k)) (by kernel_rfl) (by kernel_rfl) (getS (by omega)) (by kernel_rfl)) fun q87 h88 => ?_
    clear h86
    refine stC (i := 5) (d := 36) (op := Op.call { callee := Callee.value (Operand.func 71), args := #[Operand.tmp 31, Operand.tmp 32, Operand.tmp 35], argTypes := #[3, 3, 5] }) (ty := 4) (g := none) (f := 71) (args := #[.int .i64 2, .int .i64 ((k : Nat) : Int), .int .u8 (((chAt s k).toNat : Nat) : Int)]) (w1 := w75) h88 (by kernel_rfl) (by kernel_rfl) (by kernel_rfl) gok_none (by kernel_rfl) (c71_2 ((k : Nat) : Int) (((chAt s k).toNat : Nat) : Int) w75) ?_
    rintro _ w91 ⟨rfl, hb92⟩
    have hB93 := hB77.call hb92
    refine ⟨_, rfl, trivial, fun q89 h90 => ?_⟩
    clear h88 hB77 hb92
    refine eE 6 37 (.unOp .not 4 (.tmp 36)) 4 (.bool (!(mayB 2 ((k : Nat) : Int) (((chAt s k).toNat : Nat) : Int)))) h90 fun q94 h95 => ?_
    clear h90
    refine wpO_end ?_
    refine then_n ?_
    refine c_cond (t := 37) (b := !(mayB 2 ((k : Nat) : Int) (((chAt s k).toNat : Nat) : Int))) h95 (by kernel_rfl) (by kernel_rfl) (fun hc96 => ?_) (fun hc96 => ?_)
    ·
      rw [may_cls 2 (by decide) k x _ hx] at hc96
      refine c_seq (by kernel_rfl) ?_
      refine reg_plain [(0, false), (1, false), (2, false)] (by kernel_rfl) (by kernel_rfl) ?_
      refine eE 0 38 (.move (.tmp 8)) 3 (.int .i64 ((k : Nat) : Int)) h95 fun q97 h98 => ?_
      clear h95
      refine eE 1 4 (.assign (.tmp 38)) 3 (.int .i64 ((k : Nat) : Int)) h98 fun q99 h100 => ?_
      clear h98
      refine eE 2 5 (.assign (.const (.int .i64 3))) 3 (.int .i64 3) h100 fun q101 h102 => ?_
      clear h100
      refine wpO_end ?_
      have h103 := h102.keep [(5, .int .i64 3), (4, .int .i64 ((k : Nat) : Int)), (38, .int .i64 ((k : Nat) : Int)), (37, .bool (!(mayB 2 ((k : Nat) : Int) (((chAt s k).toNat : Nat) : Int)))), (36, .bool (mayB 2 ((k : Nat) : Int) (((chAt s k).toNat : Nat) : Int))), (35, .int .u8 (((chAt s k).toNat : Nat) : Int)), (34, .int .i64 ((k : Nat) : Int)), (33, .string s), (32, .int .i64 ((k : Nat) : Int)), (31, .int .i64 2), (28, .bool ((decide (((k : Nat) : Int) < ((s.size : Nat) : Int))) && (decide (((k : Nat) : Int) < (16 : Int))))), (24, .bool (decide (((k : Nat) : Int) < ((s.size : Nat) : Int)))), (23, .bool (decide (((k : Nat) : Int) < ((s.size : Nat) : Int)))), (22, .int .i64 ((s.size : Nat) : Int)), (21, .string s), (20, .int .i64 ((k : Nat) : Int)), (0, .int .i64 2), (1, .string s), (6, .int .i64 1), (7, .int .i64 16), (8, .int .i64 ((k : Nat) : Int))] ⟨rfl, rfl, rfl, rfl, rfl, rfl, rfl, rfl, rfl, rfl, rfl, rfl, rfl, rfl, rfl, rfl, rfl, rfl, rfl, rfl, rfl, trivial⟩
      clear h102
      refine then_n ?_
      refine c_ret (by kernel_rfl) ?_
      refine inB_r (then_r (then_r (inB_r (then_r ?_))))
      refine ret2 (t := 4) (u := 5) (v := .int .i64 ((k : Nat) : Int)) (v' := .int .i64 3) h103 (by kernel_rfl) (by kernel_rfl) (by kernel_rfl) ?_
      exact ⟨_, _, rfl, refb_bad2 s (pfx_bad (sh := 1) hx (by rw [decide_eq_true (by omega), Bool.true_and]; exact hc96)), hB93.bel⟩
    ·
      rw [may_cls 2 (by decide) k x _ hx] at hc96
      refine c_skip (by kernel_rfl) ?_
      refine inB_n ?_
      refine then_n ?_
      refine reg_plain [(0, false), (1, false), (2, false)] (by kernel_rfl) (by kernel_rfl) ?_
      refine eE 0 29 (.move (.tmp 8)) 3 (.int .i64 ((k : Nat) : Int)) h95 fun q104 h105 => ?_
      clear h95
      refine eE 1 30 (.binOp .add 3 (.tmp 29) (.const (.int .i64 1)) 3) 3 (.int .i64 (IntKind.i64.wrap (((k : Nat) : Int) + 1))) h105 fun q106 h107 => ?_
      clear h105
      refine eE 2 8 (.assign (.tmp 30)) 3 (.int .i64 (IntKind.i64.wrap (((k : Nat) : Int) + 1))) h107 fun q108 h109 => ?_
      clear h107
      refine wpO_end ?_
      have h110 := h109.keep [(8, .int .i64 (IntKind.i64.wrap (((k : Nat) : Int) + 1))), (30, .int .i64 (IntKind.i64.wrap (((k : Nat) : Int) + 1))), (29, .int .i64 ((k : Nat) : Int)), (37, .bool (!(mayB 2 ((k : Nat) : Int) (((chAt s k).toNat : Nat) : Int)))), (36, .bool (mayB 2 ((k : Nat) : Int) (((chAt s k).toNat : Nat) : Int))), (35, .int .u8 (((chAt s k).toNat : Nat) : Int)), (34, .int .i64 ((k : Nat) : Int)), (33, .string s), (32, .int .i64 ((k : Nat) : Int)), (31, .int .i64 2), (28, .bool ((decide (((k : Nat) : Int) < ((s.size : Nat) : Int))) && (decide (((k : Nat) : Int) < (16 : Int))))), (24, .bool (decide (((k : Nat) : Int) < ((s.size : Nat) : Int)))), (23, .bool (decide (((k : Nat) : Int) < ((s.size : Nat) : Int)))), (22, .int .i64 ((s.size : Nat) : Int)), (21, .string s), (20, .int .i64 ((k : Nat) : Int)), (0, .int .i64 2), (1, .string s), (4, .int .i64 0), (5, .int .i64 0), (6, .int .i64 1), (7, .int .i64 16)] ⟨rfl, rfl, rfl, rfl, rfl, rfl, rfl, rfl, rfl, rfl, rfl, rfl, rfl, rfl, rfl, rfl, rfl, rfl, rfl, rfl, rfl, rfl, trivial⟩
      clear h109
      have h111 := h110.keep [(0, .int .i64 2), (1, .string s), (4, .int .i64 0), (5, .int .i64 0), (6, .int .i64 1), (7, .int .i64 16), (8, .int .i64 (((k + 1) : Nat) : Int))] ⟨rfl, rfl, rfl, rfl, rfl, rfl, look_int rfl (wrap_succ (by have := hlt.2; omega)), trivial⟩
      have hm112 := h111.int (k := 8) (kd := .i64) (z := (((k + 1) : Nat) : Int)) rfl
      refine then_n ⟨⟨k + 1, by omega, h111, hB93, pfx_step hx45 hx (by rw [decide_eq_true (by omega), Bool.true_and]; exact hc96)⟩, ?_⟩
      show (((s.size : Int)) - intAt _ 8).toNat < (((s.size : Int)) - intAt _ 8).toNat
      rw [hm44, hm112]; omega
  ·
    have hend : s.size ≤ k ∨ 16 ≤ k := by have := hc78; simp at this; omega
    have hpf := pfx_ok2 (cl := (clsOf sp2)) (sh := 1) hx45 hend
    refine c_exit 0 (by kernel_rfl) ?_
    refine then_e (then_e (inB_hit ?_))
    refine then_n ?_
    refine c_seq (by kernel_rfl) ?_
    refine c_seq (by kernel_rfl) ?_
    refine reg_plain [(0, false), (1, false), (2, false), (3, false)] (by kernel_rfl) (by kernel_rfl) ?_
    refine eE 0 39 (.move (.tmp 1)) 9 (.string s) h76 fun q113 h114 => ?_
    clear h76
    refine eE 1 40 (.call { callee := .builtin .len, args := #[.tmp 39], argTypes := #[9] }) 3 (.int .i64 ((s.size : Nat) : Int)) h114 fun q115 h116 => ?_
    clear h114
    refine eE 2 41 (.move (.tmp 6)) 3 (.int .i64 1) h116 fun q117 h118 => ?_
    clear h116
    refine eE 3 42 (.binOp .lss 3 (.tmp 40) (.tmp 41) 3) 4 (.bool (decide (((s.size : Nat) : Int) < (1 : Int)))) h118 fun q119 h120 => ?_
    clear h118
    refine wpO_end ?_
    have h121 := h120.keep [(42, .bool (decide (((s.size : Nat) : Int) < (1 : Int)))), (0, .int .i64 2), (1, .string s), (4, .int .i64 0), (5, .int .i64 0), (7, .int .i64 16)] ⟨rfl, rfl, rfl, rfl, rfl, rfl, trivial⟩
    clear h120
    refine then_n ?_
    refine c_cond (t := 42) (b := decide (((s.size : Nat) : Int) < (1 : Int))) h121 (by kernel_rfl) (by kernel_rfl) (fun hc122 => ?_) (fun hc122 => ?_)
    ·
      have hp123 : (((s.size : Nat) : Int) < (1 : Int)) := of_decide_eq_true hc122
      refine c_seq (by kernel_rfl) ?_
      refine reg_plain [(0, false), (1, false), (2, false), (3, false)] (by kernel_rfl) (by kernel_rfl) ?_
      refine eE 0 43 (.move (.tmp 1)) 9 (.string s) h121 fun q124 h125 => ?_
      clear h121
      refine eE 1 44 (.call { callee := .builtin .len, args := #[.tmp 43], argTypes := #[9] }) 3 (.int .i64 ((s.size : Nat) : Int)) h125 fun q126 h127 => ?_
      clear h125
      refine eE 2 4 (.assign (.tmp 44)) 3 (.int .i64 ((s.size : Nat) : Int)) h127 fun q128 h129 => ?_
      clear h127
      refine eE 3 5 (.assign (.const (.int .i64 4))) 3 (.int .i64 4) h129 fun q130 h131 => ?_
      clear h129
      refine wpO_end ?_
      have h132 := h131.keep [(5, .int .i64 4), (4, .int .i64 ((s.size : Nat) : Int)), (0, .int .i64 2), (1, .string s), (7, .int .i64 16)] ⟨rfl, rfl, rfl, rfl, rfl, trivial⟩
      clear h131
      refine then_n ?_
      refine c_ret (by kernel_rfl) ?_
      refine then_r ?_
      refine ret2 (t := 4) (u := 5) (v := .int .i64 ((s.size : Nat) : Int)) (v' := .int .i64 4) h132 (by kernel_rfl) (by kernel_rfl) (by kernel_rfl) ?_
      exact ⟨_, _, rfl, refb_bad2 s (show pfxE (clsOf sp2) 1 s = 4 from hpf.trans (cT hc122)), hB77.bel⟩
    ·
      have hp133 : ¬ (((s.size : Nat) : Int) < (1 : Int)) := of_decide_eq_false hc122
      refine c_skip (by kernel_rfl) ?_
      refine then_n ?_
      refine c_seq (by kernel_rfl) ?_
      refine c_seq (by kernel_rfl) ?_
      refine reg_plain [(0, false), (1, false), (2, false), (3, false)] (by kernel_rfl) (by kernel_rfl) ?_
      refine eE 0 45 (.move (.tmp 1)) 9 (.string s) h121 fun q134 h135 => ?_
      clear h121
      refine eE 1 46 (.call { callee := .builtin .len, args := #[.tmp 45], argTypes := #[9] }) 3 (.int .i64 ((s.size : Nat) : Int)) h135 fun q136 h137 => ?_
      clear h135
      refine eE 2 47 (.move (.tmp 7)) 3 (.int .i64 16) h137 fun q138 h139 => ?_
      clear h137
      refine eE 3 48 (.binOp .gtr 3 (.tmp 46) (.tmp 47) 3) 4 (.bool (decide ((16 : Int) < ((s.size : Nat) : Int)))) h139 fun q140 h141 => ?_
      clear h139
      refine wpO_end ?_
      have h142 := h141.keep [(48, .bool (decide ((16 : Int) < ((s.size : Nat) : Int)))), (0, .int .i64 2), (1, .string s), (4, .int .i64 0), (5, .int .i64 0), (7, .int .i64 16)] ⟨rfl, rfl, rfl, rfl, rfl, rfl, trivial⟩
      clear h141
      refine then_n ?_
      refine c_cond (t := 48) (b := decide ((16 : Int) < ((s.size : Nat) : Int))) h142 (by kernel_rfl) (by kernel_rfl) (fun hc143 => ?_) (fun hc143 => ?_)
      ·
        have hp144 : ((16 : Int) < ((s.size : Nat) : Int)) := of_decide_eq_true hc143
        refine c_seq (by kernel_rfl) ?_
        refine reg_plain [(0, false), (1, false), (2, false)] (by kernel_rfl) (by kernel_rfl) ?_
        refine eE 0 49 (.move (.tmp 7)) 3 (.int .i64 16) h142 fun q145 h146 => ?_
        clear h142
        refine eE 1 4 (.assign (.tmp 49)) 3 (.int .i64 16) h146 fun q147 h148 => ?_
        clear h146
        refine eE 2 5 (.assign (.const (.int .i64 5))) 3 (.int .i64 5) h148 fun q149 h150 => ?_
        clear h148
        refine wpO_end ?_
        have h151 := h150.keep [(5, .int .i64 5), (4, .int .i64 16), (0, .int .i64 2), (1, .string s)] ⟨rfl, rfl, rfl, rfl, trivial⟩
        clear h150
        refine then_n ?_
        refine c_ret (by kernel_rfl) ?_
        refine then_r ?_
        refine ret2 (t := 4) (u := 5) (v := .int .i64 16) (v' := .int .i64 5) h151 (by kernel_rfl) (by kernel_rfl) (by kernel_rfl) ?_
        exact ⟨_, _, rfl, refb_bad2 s (show pfxE (clsOf sp2) 1 s = 5 from hpf.trans ((cF hc122).trans (cT hc143))), hB77.bel⟩
      ·
        have hp152 : ¬ ((16 : Int) < ((s.size : Nat) : Int)) := of_decide_eq_false hc143
        refine c_skip (by kernel_rfl) ?_
        refine then_n ?_
        refine c_seq (by kernel_rfl) ?_
        refine c_seq (by kernel_rfl) ?_
        have hD153 := hB77.drew
        refine reg_draw (S := Bx w []) 12 [⟨0, true, 0, 1, 1125899906842624⟩, ⟨1, true, 1, 1125899906842624, 2251799813685248⟩, ⟨2, true, 2, 2251799813685248, 4503599627370496⟩, ⟨3, true, 4, 4503599627370498, 9007199254740992⟩, ⟨4, true, 12, 13510798882111488, 18014398509481984⟩, ⟨5, true, 20, 22517998136852480, 36028797018963968⟩, ⟨6, true, 36, 40532396646334464, 72057594037927936⟩, ⟨7, true, 4, 4503599627370498, 144115188075855872⟩, ⟨8, true, 132, 148618787703226368, 288230376151711744⟩, ⟨9, false, 260, 292733975779082240, 576460752303423488⟩, ⟨10, true, 580, 653021945968721920, 1152921504606846976⟩, ⟨11, true, 1028, 1157425104234217472, 2305843009213693952⟩] [(0, true), (1, true), (2, true), (3, true), (4, true), (5, true), (6, true), (7, true), (8, true), (9, false), (10, true), (11, true)] (by kernel_rfl) (by kernel_rfl) (by kernel_rfl) (by kernel_rfl) (fun _ _ _ _ h => absurd h.2 (by simp)) hD153 ?_
        generalize World.drew w75 = w154 at hD153 ⊢
        refine fE 0 50 (.move (.tmp 0)) 3 (.int .i64 2) h142 fun q155 h156 => ?_
        clear h142
        refine fE 1 51 (.binOp .eql 3 (.tmp 50) (.const (.int .i64 0)) 3) 4 (.bool false) h156 fun q157 h158 => ?_
        clear h156
        refine fE 2 52 (.move (.tmp 51)) 4 (.bool false) h158 fun q159 h160 => ?_
        clear h158
        refine kF 3 53 (2, true) (g3 52 (rfl : false = false)) h160 fun q161 h162 => ?_
        clear h160
        refine kF 4 54 (2, true) (g3 52 (rfl : false = false)) h162 fun q163 h164 => ?_
        clear h162
        refine kF 5 55 (2, true) (g3 52 (rfl : false = false)) h164 fun q165 h166 => ?_
        clear h164
        refine kF 6 56 (2, true) (g3 52 (rfl : false = false)) h166 fun q167 h168 => ?_
        clear h166
        refine kF 7 57 (2, true) (g3 52 (rfl : false = false)) h168 fun q169 h170 => ?_
        clear h168
        refine kF 8 58 (2, true) (g3 52 (rfl : false = false)) h170 fun q171 h172 => ?_
        clear h170
        refine kE 9 59 (2, true) (g3 52 (rfl : false = false)) h172 hD153 fun q173 h174 => ?_
        clear h172
        refine kF 10 60 (2, true) (g3 52 (rfl : false = false)) h174 fun q175 h176 => ?_
        clear h174
        refine fE 11 61 (.pick (.tmp 52) (.tmp 60) (.const (.bool false))) 4 (.bool false) h176 fun q177 h178 => ?_
        clear h176
        refine wpO_end ?_
        have h179 := h178.keep [(61, .bool false), (0, .int .i64 2), (1, .string s), (4, .int .i64 0), (5, .int .i64 0)] ⟨rfl, rfl, rfl, rfl, rfl, trivial⟩
        clear h178
        refine then_n ?_
        refine c_cond (t := 61) (b := false) h179 (by kernel_rfl) (by kernel_rfl) (fun e180 => Bool.noConfusion (e180.symm.trans (rfl))) (fun _ => ?_)
        refine c_skip (by kernel_rfl) ?_
        refine then_n ?_
        refine c_seq (by kernel_rfl) ?_
        refine c_seq (by kernel_rfl) ?_
        have hD181 := hD153.drew
        refine reg_draw (S := Bx w []) 13 [⟨0, true, 0, 1, 4611686018427387904⟩, ⟨1, true, 1, 4611686018427387904, 9223372036854775808⟩, ⟨2, true, 2, 9223372036854775808, 18446744073709551616⟩, ⟨3, true, 4, 18446744073709551618, 36893488147419103232⟩, ⟨4, true, 12, 55340232221128654848, 73786976294838206464⟩, ⟨5, true, 4, 18446744073709551618, 147573952589676412928⟩, ⟨6, true, 36, 166020696663385964544, 295147905179352825856⟩, ⟨7, true, 68, 313594649253062377472, 590295810358705651712⟩, ⟨8, false, 132, 608742554432415203328, 1180591620717411303424⟩, ⟨9, true, 260, 1199038364791120855040, 2361183241434822606848⟩, ⟨10, false, 772, 2379629985508532158464, 4722366482869645213696⟩, ⟨11, true, 1044, 4814600203238192971776, 9444732965739290427392⟩, ⟨12, true, 2052, 9463179709812999979008, 18889465931478580854784⟩] [(0, true), (1, true), (2, true), (3, true), (4, true), (5, true), (6, true), (7, true), (8, false), (9, true), (10, false), (11, true), (12, true)] (by kernel_rfl) (by kernel_rfl) (by kernel_rfl) (by kernel_rfl) (fun _ _ _ _ h => absurd h.2 (by simp)) hD181 ?_
        generalize World.drew w154 = w182 at hD181 ⊢
        refine fE 0 62 (.move (.tmp 0)) 3 (.int .i64 2) h179 fun q183 h184 => ?_
        clear h179
        refine fE 1 63 (.binOp .eql 3 (.tmp 62) (.const (.int .i64 3)) 3) 4 (.bool false) h184 fun q185 h186 => ?_
        clear h184
        refine fE 2 64 (.move (.tmp 63)) 4 (.bool false) h186 fun q187 h188 => ?_
        clear h186
        refine kF 3 65 (2, true) (g3 64 (rfl : false = false)) h188 fun q189 h190 => ?_
        clear h188
        refine kF 4 66 (2, true) (g3 64 (rfl : false = false)) h190 fun q191 h192 => ?_
        clear h190
        refine kF 5 67 (2, true) (g3 64 (rfl : false = false)) h192 fun q193 h194 => ?_
        clear h192
        refine kF 6 68 (2, true) (g3 64 (rfl : false = false)) h194 fun q195 h196 => ?_
        clear h194
        refine kF 7 69 (2, true) (g3 64 (rfl : false = false)) h196 fun q197 h198 => ?_
        clear h196
        refine kE 8 70 (2, true) (g3 64 (rfl : false = false)) h198 hD181 fun q199 h200 => ?_
        clear h198
        refine kF 9 71 (2, true) (g3 64 (rfl : false = false)) h200 fun q201 h202 => ?_
        clear h200
        refine kE 10 72 (2, true) (g3 64 (rfl : false = false)) h202 hD181 fun q203 h204 => ?_
        clear h202
        refine kF 11 73 (2, true) (g3 64 (rfl : false = false)) h204 fun q205 h206 => ?_
        clear h204
        refine fE 12 74 (.pick (.tmp 64) (.tmp 73) (.const (.bool false))) 4 (.bool false) h206 fun q207 h208 => ?_
        clear h206
        refine wpO_end ?_
        have h209 := h208.keep [(74, .bool false), (4, .int .i64 0), (5, .int .i64 0)] ⟨rfl, rfl, rfl, trivial⟩
        clear h208
        refine then_n ?_
        refine c_cond (t := 74) (b := false) h209 (by kernel_rfl) (by kernel_rfl) (fun e210 => Bool.noConfusion (e210.symm.trans (rfl))) (fun _ => ?_)
        refine c_skip (by kernel_rfl) ?_
        refine then_n ?_
        refine c_seq (by kernel_rfl) ?_
        refine reg_plain [(0, false), (1, false)] (by kernel_rfl) (by kernel_rfl) ?_
        refine eE 0 4 (.assign (.const (.int .i64 0))) 3 (.int .i64 0) h209 fun q211 h212 => ?_
        clear h209
        refine eE 1 5 (.assign (.const (.int .i64 0))) 3 (.int .i64 0) h212 fun q213 h214 => ?_
        clear h212
        refine wpO_end ?_
        have h215 := h214.keep [(5, .int .i64 0), (4, .int .i64 0)] ⟨rfl, rfl, trivial⟩
        clear h214
        refine then_n ?_
        refine c_ret (by kernel_rfl) ?_
        refine ret2 (t := 4) (u := 5) (v := .int .i64 0) (v' := .int .i64 0) h215 (by kernel_rfl) (by kernel_rfl) (by kernel_rfl) ?_
        exact ⟨_, _, rfl, refb_ok2 s (hpf.trans ((cF hc122).trans (cF hc143))), hD181.bel⟩

set_option maxHeartbeats 4000000 in
set_option maxRecDepth 20000 in
theorem c50_0 (s : ByteArray) (w : World) : Calls Tryd.prog 50 #[.int .i64 0, .string s] w fun e w' => e = .returned (.bool (isinB s)) ∧ Below w.heap.size w w' := by
  refine enter Tryd.func50 (by kernel_rfl) ?_ (by kernel_rfl)
  intro q0 h0
  replace h0 := h0.conv (l' := [(0, .int .i64 0), (1, .string s)]) rfl
  have hB := Bx.refl w
  refine c_seq (by kernel_rfl) ?_
  refine reg_plain [(0, false)] (by kernel_rfl) (by kernel_rfl) ?_
  refine eE 0 4 (.assign (.const (.bool false))) 4 (.bool false) h0 fun q1 h2 => ?_
  clear h0
  refine wpO_end ?_
  refine then_n ?_
  refine c_seq (by kernel_rfl) ?_
  refine reg_plain [(0, false), (1, false), (2, false), (3, false), (4, false), (5, false), (6, false), (7, false)] (by kernel_rfl) (by kernel_rfl) ?_
  refine eE 0 8 (.move (.tmp 0)) 3 (.int .i64 0) h2 fun q3 h4 => ?_
  clear h2
  refine eE 1 9 (.move (.tmp 1)) 9 (.string s) h4 fun q5 h6 => ?_
  clear h4
  refine stC (i := 2) (d := 10) (op := Op.call { callee := Callee.value (Operand.func 63), args := #[Operand.tmp 8, Operand.tmp 9], argTypes := #[3, 9] }) (ty := 92) (g := none) (f := 63) (args := #[.int .i64 0, .string s]) (w1 := w) h6 (by kernel_rfl) (by kernel_rfl) (by kernel_rfl) gok_none (by kernel_rfl) (c63_0 s w) ?_
  rintro _ w11 ⟨at'9, E10, rfl, hE14, hb12⟩
  have hB13 := hB.call hb12
  refine ⟨_, rfl, trivial, fun q7 h8 => ?_⟩
  clear h6 hB hb12
  refine eE 3 7 (.move (.tmp 10)) 92 (.tuple #[.int .i64 at'9, .int .i64 E10]) h8 fun q15 h16 => ?_
  clear h8
  refine eE 4 11 (.extract (.tmp 7) 0) 3 (.int .i64 at'9) h16 fun q17 h18 => ?_
  clear h16
  refine eE 5 12 (.extract (.tmp 7) 1) 3 (.int .i64 E10) h18 fun q19 h20 => ?_
  clear h18
  refine eE 6 5 (.assign (.tmp 11)) 3 (.int .i64 at'9) h20 fun q21 h22 => ?_
  clear h20
  refine eE 7 6 (.assign (.tmp 12)) 3 (.int .i64 E10) h22 fun q23 h24 => ?_
  clear h22
  refine wpO_end ?_
  have h25 := h24.keep [(6, .int .i64 E10), (4, .bool false)] ⟨rfl, rfl, trivial⟩
  clear h24
  refine then_n ?_
  refine c_seq (by kernel_rfl) ?_
  refine reg_plain [(0, false), (1, false), (2, false)] (by kernel_rfl) (by kernel_rfl) ?_
  refine eE 0 13 (.move (.tmp 6)) 3 (.int .i64 E10) h25 fun q26 h27 => ?_
  clear h25
  refine eE 1 14 (.binOp .eql 3 (.tmp 13) (.const (.int .i64 0)) 3) 4 (.bool (E10 == (0 : Int))) h27 fun q28 h29 => ?_
  clear h27
  refine eE 2 4 (.assign (.tmp 14)) 4 (.bool (E10 == (0 : Int))) h29 fun q30 h31 => ?_
  clear h29
  refine wpO_end ?_
  have h32 := h31.keep [(4, .bool (E10 == (0 : Int)))] ⟨rfl, trivial⟩
  clear h31
  refine then_n ?_
  refine c_ret (by kernel_rfl) ?_
  refine ret1 (t := 4) (v := .bool (E10 == (0 : Int))) h32 (by kernel_rfl) (by kernel_rfl) ?_
  exact ⟨ret_eq (congrArg Value.bool hE14), hB13.bel⟩

set_option maxHeartbeats 4000000 in
set_option maxRecDepth 20000 in
theorem c50_1 (s : ByteArray) (w : World) : Calls Tryd.prog 50 #[.int .i64 1, .string s] w fun e w' => e = .returned (.bool (memB s)) ∧ Below w.heap.size w w' := by
  refine enter Tryd.func50 (by kernel_rfl) ?_ (by kernel_rfl)
  intro q0 h0
  replace h0 := h0.conv (l' := [(0, .int .i64 1), (1, .string s)]) rfl
  have hB := Bx.refl w
  refine c_seq (by kernel_rfl) ?_
  refine reg_plain [(0, false)] (by kernel_rfl) (by kernel_rfl) ?_
  refine eE 0 4 (.assign (.const (.bool false))) 4 (.bool false) h0 fun q1 h2 => ?_
  clear h0
  refine wpO_end ?_
  refine then_n ?_
  refine c_seq (by kernel_rfl) ?_
  refine reg_plain [(0, false), (1, false), (2, false), (3, false), (4, false), (5, false), (6, false), (7, false)] (by kernel_rfl) (by kernel_rfl) ?_
  refine eE 0 8 (.move (.tmp 0)) 3 (.int .i64 1) h2 fun q3 h4 => ?_
  clear h2
  refine eE 1 9 (.move (.tmp 1)) 9 (.string s) h4 fun q5 h6 => ?_
  clear h4
  refine stC (i := 2) (d := 10) (op := Op.call { callee := Callee.value (Operand.func 63), args := #[Operand.tmp 8, Operand.tmp 9], argTypes := #[3, 9] }) (ty := 92) (g := none) (f := 63) (args := #[.int .i64 1, .string s]) (w1 := w) h6 (by kernel_rfl) (by kernel_rfl) (by kernel_rfl) gok_none (by kernel_rfl) (c63_1 s w) ?_
  rintro _ w11 ⟨at'9, E10, rfl, hE14, hb12⟩
  have hB13 := hB.call hb12
  refine ⟨_, rfl, trivial, fun q7 h8 => ?_⟩
  clear h6 hB hb12
  refine eE 3 7 (.move (.tmp 10)) 92 (.tuple #[.int .i64 at'9, .int .i64 E10]) h8 fun q15 h16 => ?_
  clear h8
  refine eE 4 11 (.extract (.tmp 7) 0) 3 (.int .i64 at'9) h16 fun q17 h18 => ?_
  clear h16
  refine eE 5 12 (.extract (.tmp 7) 1) 3 (.int .i64 E10) h18 fun q19 h20 => ?_
  clear h18
  refine eE 6 5 (.assign (.tmp 11)) 3 (.int .i64 at'9) h20 fun q21 h22 => ?_
  clear h20
  refine eE 7 6 (.assign (.tmp 12)) 3 (.int .i64 E10) h22 fun q23 h24 => ?_
  clear h22
  refine wpO_end ?_
  have h25 := h24.keep [(6, .int .i64 E10), (4, .bool false)] ⟨rfl, rfl, trivial⟩
  clear h24
  refine then_n ?_
  refine c_seq (by kernel_rfl) ?_
  refine reg_plain [(0, false), (1, false), (2, false)] (by kernel_rfl) (by kernel_rfl) ?_
  refine eE 0 13 (.move (.tmp 6)) 3 (.int .i64 E10) h25 fun q26 h27 => ?_
  clear h25
  refine eE 1 14 (.binOp .eql 3 (.tmp 13) (.const (.int .i64 0)) 3) 4 (.bool (E10 == (0 : Int))) h27 fun q28 h29 => ?_
  clear h27
  refine eE 2 4 (.assign (.tmp 14)) 4 (.bool (E10 == (0 : Int))) h29 fun q30 h31 => ?_
  clear h29
  refine wpO_end ?_
  have h32 := h31.keep [(4, .bool (E10 == (0 : Int)))] ⟨rfl, trivial⟩
  clear h31
  refine then_n ?_
  refine c_ret (by kernel_rfl) ?_
  refine ret1 (t := 4) (v := .bool (E10 == (0 : Int))) h32 (by kernel_rfl) (by kernel_rfl) ?_
  exact ⟨ret_eq (congrArg Value.bool hE14), hB13.bel⟩

set_option maxHeartbeats 4000000 in
set_option maxRecDepth 20000 in
theorem c50_2 (s : ByteArray) (w : World) : Calls Tryd.prog 50 #[.int .i64 2, .string s] w fun e w' => e = .returned (.bool (rfB s)) ∧ Below w.heap.size w w' := by
  refine enter Tryd.func50 (by kernel_rfl) ?_ (by kernel_rfl)
  intro q0 h0
  replace h0 := h0.conv (l' := [(0, .int .i64 2), (1, .string s)]) rfl
  have hB := Bx.refl w
  refine c_seq (by kernel_rfl) ?_
  refine reg_plain [(0, false)] (by kernel_rfl) (by kernel_rfl) ?_
  refine eE 0 4 (.assign (.const (.bool false))) 4 (.bool false) h0 fun q1 h2 => ?_
  clear h0
  refine wpO_end ?_
  refine then_n ?_
  refine c_seq (by kernel_rfl) ?_
  refine reg_plain [(0, false), (1, false), (2, false), (3, false), (4, false), (5, false), (6, false), (7, false)] (by kernel_rfl) (by kernel_rfl) ?_
  refine eE 0 8 (.move (.tmp 0)) 3 (.int .i64 2) h2 fun q3 h4 => ?_
  clear h2
  refine eE 1 9 (.move (.tmp 1)) 9 (.string s) h4 fun q5 h6 => ?_
  clear h4
  refine stC (i := 2) (d := 10) (op := Op.call { callee := Callee.value (Operand.func 63), args := #[Operand.tmp 8, Operand.tmp 9], argTypes := #[3, 9] }) (ty := 92) (g := none) (f := 63) (args := #[.int .i64 2, .string s]) (w1 := w) h6 (by kernel_rfl) (by kernel_rfl) (by kernel_rfl) gok_none (by kernel_rfl) (c63_2 s w) ?_
  rintro _ w11 ⟨at'9, E10, rfl, hE14, hb12⟩
  have hB13 := hB.call hb12
  refine ⟨_, rfl, trivial, fun q7 h8 => ?_⟩
  clear h6 hB hb12
  refine eE 3 7 (.move (.tmp 10)) 92 (.tuple #[.int .i64 at'9, .int .i64 E10]) h8 fun q15 h16 => ?_
  clear h8
  refine eE 4 11 (.extract (.tmp 7) 0) 3 (.int .i64 at'9) h16 fun q17 h18 => ?_
  clear h16
  refine eE 5 12 (.extract (.tmp 7) 1) 3 (.int .i64 E10) h18 fun q19 h20 => ?_
  clear h18
  refine eE 6 5 (.assign (.tmp 11)) 3 (.int .i64 at'9) h20 fun q21 h22 => ?_
  clear h20
  refine eE 7 6 (.assign (.tmp 12)) 3 (.int .i64 E10) h22 fun q23 h24 => ?_
  clear h22
  refine wpO_end ?_
  have h25 := h24.keep [(6, .int .i64 E10), (4, .bool false)] ⟨rfl, rfl, trivial⟩
  clear h24
  refine then_n ?_
  refine c_seq (by kernel_rfl) ?_
  refine reg_plain [(0, false), (1, false), (2, false)] (by kernel_rfl) (by kernel_rfl) ?_
  refine eE 0 13 (.move (.tmp 6)) 3 (.int .i64 E10) h25 fun q26 h27 => ?_
  clear h25
  refine eE 1 14 (.binOp .eql 3 (.tmp 13) (.const (.int .i64 0)) 3) 4 (.bool (E10 == (0 : Int))) h27 fun q28 h29 => ?_
  clear h27
  refine eE 2 4 (.assign (.tmp 14)) 4 (.bool (E10 == (0 : Int))) h29 fun q30 h31 => ?_
  clear h29
  refine wpO_end ?_
  have h32 := h31.keep [(4, .bool (E10 == (0 : Int)))] ⟨rfl, trivial⟩
  clear h31
  refine then_n ?_
  refine c_ret (by kernel_rfl) ?_
  refine ret1 (t := 4) (v := .bool (E10 == (0 : Int))) h32 (by kernel_rfl) (by kernel_rfl) ?_
  exact ⟨ret_eq (congrArg Value.bool hE14), hB13.bel⟩

def dayB (n : Int) : Bool := decide (0 ≤ n) && decide (n ≤ 73048)

set_option maxHeartbeats 4000000 in
set_option maxRecDepth 20000 in
theorem c51 (n : Int) (w : World) : Calls Tryd.prog 51 #[.int .i64 n] w fun e w' => e = .returned (.bool (dayB n)) ∧ Below w.heap.size w w' := by
  refine enter Tryd.func51 (by kernel_rfl) ?_ (by kernel_rfl)
  intro q0 h0
  replace h0 := h0.conv (l' := [(0, .int .i64 n)]) rfl
  have hB := Bx.refl w
  refine c_seq (by kernel_rfl) ?_
  refine reg_plain [(0, false)] (by kernel_rfl) (by kernel_rfl) ?_
  refine eE 0 2 (.assign (.const (.bool false))) 4 (.bool false) h0 fun q1 h2 => ?_
  clear h0
  refine wpO_end ?_
  refine then_n ?_
  refine c_seq (by kernel_rfl) ?_
  refine reg_plain [(0, false), (1, false), (2, false), (3, false), (4, false), (5, false), (6, false)] (by kernel_rfl) (by kernel_rfl) ?_
  refine eE 0 3 (.move (.tmp 0)) 3 (.int .i64 n) h2 fun q3 h4 => ?_
  clear h2
  refine eE 1 4 (.binOp .geq 3 (.tmp 3) (.const (.int .i64 0)) 3) 4 (.bool (decide ((0 : Int) ≤ n))) h4 fun q5 h6 => ?_
  clear h4
  refine eE 2 5 (.move (.tmp 4)) 4 (.bool (decide ((0 : Int) ≤ n))) h6 fun q7 h8 => ?_
  clear h6
  refine wpO_cut [(3, false), (4, false), (5, false)] [(6, false)] (fun qa qw => Fr 9 [(8, .bool ((decide ((0 : Int) ≤ n)) && (decide (n ≤ (73048 : Int))))), (2, .bool false)] qa ∧ Bx w [] qw) ?_ ?_
  ·
    rcases Bool.eq_false_or_eq_true (decide ((0 : Int) ≤ n)) with hc9 | hc9
    ·
      refine eG 3 6 (.move (.tmp 0)) 3 (2, true) (.int .i64 n) (g1 5 hc9) h8 fun q10 h11 => ?_
      clear h8
      refine eG 4 7 (.binOp .leq 3 (.tmp 6) (.const (.int .i64 73048)) 3) 4 (2, true) (.bool (decide (n ≤ (73048 : Int)))) (g1 5 hc9) h11 fun q12 h13 => ?_
      clear h11
      refine eE 5 8 (.pick (.tmp 5) (.tmp 7) (.const (.bool false))) 4 (.bool ((decide ((0 : Int) ≤ n)) && (decide (n ≤ (73048 : Int))))) h13 (hr := r_and (c := decide ((0 : Int) ≤ n)) (d := (decide (n ≤ (73048 : Int)))) (by kernel_rfl) (fun _ => by kernel_rfl)) fun q14 h15 => ?_
      clear h13
      exact ⟨h15.keep _ ⟨rfl, rfl, trivial⟩, hB⟩
    ·
      refine kE 3 6 (2, true) (g3 5 hc9) h8 trivial fun q16 h17 => ?_
      clear h8
      refine kE 4 7 (2, true) (g3 5 hc9) h17 trivial fun q18 h19 => ?_
      clear h17
      refine eE 5 8 (.pick (.tmp 5) (.tmp 7) (.const (.bool false))) 4 (.bool ((decide ((0 : Int) ≤ n)) && (decide (n ≤ (73048 : Int))))) h19 (hr := r_and (c := decide ((0 : Int) ≤ n)) (d := (decide (n ≤ (73048 : Int)))) (by kernel_rfl) (fun e22 => Bool.noConfusion (e22.symm.trans hc9))) fun q20 h21 => ?_
      clear h19
      exact ⟨h21.keep _ ⟨rfl, rfl, trivial⟩, hB⟩
  rintro q23 w24 ⟨h25, hB26⟩
  refine eE 6 2 (.assign (.tmp 8)) 4 (.bool ((decide ((0 : Int) ≤ n)) && (decide (n ≤ (73048 : Int))))) h25 fun q27 h28 => ?_
  clear h25
  refine wpO_end ?_
  have h29 := h28.keep [(2, .bool ((decide ((0 : Int) ≤ n)) && (decide (n ≤ (73048 : Int)))))] ⟨rfl, trivial⟩
  clear h28
  refine then_n ?_
  refine c_ret (by kernel_rfl) ?_
  refine ret1 (t := 2) (v := .bool ((decide ((0 : Int) ≤ n)) && (decide (n ≤ (73048 : Int))))) h29 (by kernel_rfl) (by kernel_rfl) ?_
  exact ⟨ret_eq (rfl), hB26.bel⟩

end Go.Proofs.YtljegdokbifoiaaDoor.Af
