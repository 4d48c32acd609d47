/- The names' functions and their law. The three lists read as they were laid. -/
import Derived.Test.YtljegdokbifoiaaDoorNmp
namespace Go.Proofs.YtljegdokbifoiaaDoor.Af
open Go.RowKit
set_option maxHeartbeats 4000000 in
set_option maxRecDepth 20000 in
theorem c20 (l : List ByteArray) (A : Option Addr) (c : Nat) (n : Int) (w : World) (hr : Rd w A (strC l)) : Calls Tryd.prog 20 #[.slice A l.length c, .int .i64 n] w fun e w' => e = .returned (.string (nameB l n)) ∧ Below w.heap.size w w' := by
  refine enter Tryd.func20 (by kernel_rfl) ?_ (by kernel_rfl)
  intro q0 h0
  replace h0 := h0.conv (l' := [(0, .slice A l.length c), (1, .int .i64 n)]) rfl
  have hB := Bx.refl w
  refine c_seq (by kernel_rfl) ?_
  refine reg_plain [(0, false)] (by kernel_rfl) (by kernel_rfl) ?_
  refine eE 0 4 (.assign (.const (.string { data := #[] }))) 9 (.string (⟨#[]⟩ : ByteArray)) h0 fun q1 h2 => ?_
  clear h0
  refine wpO_end ?_
  refine then_n ?_
  refine c_seq (by kernel_rfl) ?_
  refine c_seq (by kernel_rfl) ?_
  refine reg_plain [(0, false), (1, false), (2, false), (3, false), (4, false), (5, false), (6, false), (7, false)] (by kernel_rfl) (by kernel_rfl) ?_
  refine eE 0 5 (.move (.tmp 1)) 3 (.int .i64 n) h2 fun q3 h4 => ?_
  clear h2
  refine eE 1 6 (.binOp .lss 3 (.tmp 5) (.const (.int .i64 0)) 3) 4 (.bool (decide (n < (0 : Int)))) h4 fun q5 h6 => ?_
  clear h4
  refine eE 2 7 (.move (.tmp 6)) 4 (.bool (decide (n < (0 : Int)))) h6 fun q7 h8 => ?_
  clear h6
  refine wpO_cut [(3, false), (4, false), (5, false), (6, false), (7, false)] [] (fun qa qw => Fr 17 [(12, .bool ((decide (n < (0 : Int))) || (decide (((l.length : Nat) : Int) ≤ n)))), (4, .string (⟨#[]⟩ : ByteArray)), (0, .slice A l.length c), (1, .int .i64 n)] qa ∧ Bx w [] qw) ?_ ?_
  ·
    rcases Bool.eq_false_or_eq_true (decide (n < (0 : Int))) with hc9 | hc9
    ·
      refine kE 3 8 (2, false) (g4 7 hc9) h8 trivial fun q10 h11 => ?_
      clear h8
      refine kE 4 9 (2, false) (g4 7 hc9) h11 trivial fun q12 h13 => ?_
      clear h11
      refine kE 5 10 (2, false) (g4 7 hc9) h13 trivial fun q14 h15 => ?_
      clear h13
      refine kE 6 11 (2, false) (g4 7 hc9) h15 trivial fun q16 h17 => ?_
      clear h15
      refine eE 7 12 (.pick (.tmp 7) (.const (.bool true)) (.tmp 11)) 4 (.bool ((decide (n < (0 : Int))) || (decide (((l.length : Nat) : Int) ≤ n)))) h17 (hr := r_or (c := decide (n < (0 : Int))) (d := (decide (((l.length : Nat) : Int) ≤ n))) (by kernel_rfl) (fun e20 => Bool.noConfusion (e20.symm.trans hc9))) fun q18 h19 => ?_
      clear h17
      exact ⟨h19.keep _ ⟨rfl, rfl, rfl, rfl, trivial⟩, hB⟩
    ·
      refine eG 3 8 (.move (.tmp 1)) 3 (2, false) (.int .i64 n) (g2 7 hc9) h8 fun q21 h22 => ?_
      clear h8
      refine eG 4 9 (.move (.tmp 0)) 35 (2, false) (.slice A l.length c) (g2 7 hc9) h22 fun q23 h24 => ?_
      clear h22
      refine eG 5 10 (.call { callee := .builtin .len, args := #[.tmp 9], argTypes := #[35] }) 3 (2, false) (.int .i64 ((l.length : Nat) : Int)) (g2 7 hc9) h24 fun q25 h26 => ?_
      clear h24
      refine eG 6 11 (.binOp .geq 3 (.tmp 8) (.tmp 10) 3) 4 (2, false) (.bool (decide (((l.length : Nat) : Int) ≤ n))) (g2 7 hc9) h26 fun q27 h28 => ?_
      clear h26
      refine eE 7 12 (.pick (.tmp 7) (.const (.bool true)) (.tmp 11)) 4 (.bool ((decide (n < (0 : Int))) || (decide (((l.length : Nat) : Int) ≤ n)))) h28 (hr := r_or (c := decide (n < (0 : Int))) (d := (decide (((l.length : Nat) : Int) ≤ n))) (by kernel_rfl) (fun _ => by kernel_rfl)) fun q29 h30 => ?_
      clear h28
      exact ⟨h30.keep _ ⟨rfl, rfl, rfl, rfl, trivial⟩, hB⟩
  rintro q31 w32 ⟨h33, hB34⟩
  refine wpO_end ?_
  refine then_n ?_
  refine c_cond (t := 12) (b := (decide (n < (0 : Int))) || (decide (((l.length : Nat) : Int) ≤ n))) h33 (by kernel_rfl) (by kernel_rfl) (fun hc35 => ?_) (fun hc35 => ?_)
  ·
    refine c_seq (by kernel_rfl) ?_
    refine reg_plain [(0, false)] (by kernel_rfl) (by kernel_rfl) ?_
    refine eE 0 4 (.assign (.const (.string { data := #[] }))) 9 (.string (⟨#[]⟩ : ByteArray)) h33 fun q36 h37 => ?_
    clear h33
    refine wpO_end ?_
    have h38 := h37.keep [(4, .string (⟨#[]⟩ : ByteArray)), (0, .slice A l.length c), (1, .int .i64 n)] ⟨rfl, rfl, rfl, trivial⟩
    clear h37
    refine then_n ?_
    refine c_ret (by kernel_rfl) ?_
    refine then_r ?_
    refine ret1 (t := 4) (v := .string (⟨#[]⟩ : ByteArray)) h38 (by kernel_rfl) (by kernel_rfl) ?_
    exact ⟨ret_eq (congrArg Value.string ((cT hc35)).symm), hB34.bel⟩
  ·
    have hb : 0 ≤ n ∧ n < (l.length : Int) := by have := hc35; simp at this; omega
    obtain ⟨ad, hA, hE0⟩ := hr.el (n.toNat * 1) [.string (l.getD n.toNat ⟨#[]⟩)] (by simp) (strC_get l n.toNat (by omega))
    subst hA
    refine c_skip (by kernel_rfl) ?_
    refine then_n ?_
    refine c_seq (by kernel_rfl) ?_
    refine reg_plain [(0, false), (1, false), (2, false), (3, false), (4, false)] (by kernel_rfl) (by kernel_rfl) ?_
    refine eE 0 13 (.move (.tmp 0)) 35 (.slice (some ad) l.length c) h33 fun q39 h40 => ?_
    clear h33
    refine eE 1 14 (.move (.tmp 1)) 3 (.int .i64 n) h40 fun q41 h42 => ?_
    clear h40
    refine eE 2 15 (.indexAddr 35 (.tmp 13) (.tmp 14)) 0 (.pointer (some ((ad.add (n.toNat * 1)).add 0))) h42 (hr := r_index0 (n := l.length) (c := c) (kd := .i64) (by kernel_rfl) (congrArg (Value.int .i64) (by omega : n = ((n.toNat : Nat) : Int))) (by omega) (by kernel_rfl)) fun q43 h44 => ?_
    clear h42
    refine eE 3 16 (.load 9 (.tmp 15)) 9 (.string (l.getD n.toNat ⟨#[]⟩)) h44 (hr := r_loadF (o := 0) (v := .string (l.getD n.toNat ⟨#[]⟩)) (hE0.below hB34.bel) (by kernel_rfl) (by kernel_rfl) (by kernel_rfl)) fun q45 h46 => ?_
    clear h44
    refine eE 4 4 (.assign (.tmp 16)) 9 (.string (l.getD n.toNat ⟨#[]⟩)) h46 fun q47 h48 => ?_
    clear h46
    refine wpO_end ?_
    have h49 := h48.keep [(4, .string (l.getD n.toNat ⟨#[]⟩))] ⟨rfl, trivial⟩
    clear h48
    refine then_n ?_
    refine c_ret (by kernel_rfl) ?_
    refine ret1 (t := 4) (v := .string (l.getD n.toNat ⟨#[]⟩)) h49 (by kernel_rfl) (by kernel_rfl) ?_
    exact ⟨ret_eq (congrArg Value.string ((cF hc35)).symm), hB34.bel⟩

set_option maxHeartbeats 4000000 in
set_option maxRecDepth 20000 in
theorem c52 (l : List ByteArray) (A : Option Addr) (c : Nat) (n : Int) (w : World) (hr : Rd w A (strC l)) : Calls Tryd.prog 52 #[.slice A l.length c, .int .i64 n] w fun e w' => e = .returned (.string (nameB l n)) ∧ Below w.heap.size w w' := by
  refine enter Tryd.func52 (by kernel_rfl) ?_ (by kernel_rfl)
  intro q0 h0
  replace h0 := h0.conv (l' := [(0, .slice A l.length c), (1, .int .i64 n)]) rfl
  have hB := Bx.refl w
  refine c_seq (by kernel_rfl) ?_
  refine reg_plain [(0, false)] (by kernel_rfl) (by kernel_rfl) ?_
  refine eE 0 4 (.assign (.const (.string { data := #[] }))) 9 (.string (⟨#[]⟩ : ByteArray)) h0 fun q1 h2 => ?_
  clear h0
  refine wpO_end ?_
  refine then_n ?_
  refine c_seq (by kernel_rfl) ?_
  refine c_seq (by kernel_rfl) ?_
  refine reg_plain [(0, false), (1, false), (2, false), (3, false), (4, false), (5, false), (6, false), (7, false)] (by kernel_rfl) (by kernel_rfl) ?_
  refine eE 0 5 (.move (.tmp 1)) 3 (.int .i64 n) h2 fun q3 h4 => ?_
  clear h2
  refine eE 1 6 (.binOp .lss 3 (.tmp 5) (.const (.int .i64 0)) 3) 4 (.bool (decide (n < (0 : Int)))) h4 fun q5 h6 => ?_
  clear h4
  refine eE 2 7 (.move (.tmp 6)) 4 (.bool (decide (n < (0 : Int)))) h6 fun q7 h8 => ?_
  clear h6
  refine wpO_cut [(3, false), (4, false), (5, false), (6, false), (7, false)] [] (fun qa qw => Fr 17 [(12, .bool ((decide (n < (0 : Int))) || (decide (((l.length : Nat) : Int) ≤ n)))), (4, .string (⟨#[]⟩ : ByteArray)), (0, .slice A l.length c), (1, .int .i64 n)] qa ∧ Bx w [] qw) ?_ ?_
  ·
    rcases Bool.eq_false_or_eq_true (decide (n < (0 : Int))) with hc9 | hc9
    ·
      refine kE 3 8 (2, false) (g4 7 hc9) h8 trivial fun q10 h11 => ?_
      clear h8
      refine kE 4 9 (2, false) (g4 7 hc9) h11 trivial fun q12 h13 => ?_
      clear h11
      refine kE 5 10 (2, false) (g4 7 hc9) h13 trivial fun q14 h15 => ?_
      clear h13
      refine kE 6 11 (2, false) (g4 7 hc9) h15 trivial fun q16 h17 => ?_
      clear h15
      refine eE 7 12 (.pick (.tmp 7) (.const (.bool true)) (.tmp 11)) 4 (.bool ((decide (n < (0 : Int))) || (decide (((l.length : Nat) : Int) ≤ n)))) h17 (hr := r_or (c := decide (n < (0 : Int))) (d := (decide (((l.length : Nat) : Int) ≤ n))) (by kernel_rfl) (fun e20 => Bool.noConfusion (e20.symm.trans hc9))) fun q18 h19 => ?_
      clear h17
      exact ⟨h19.keep _ ⟨rfl, rfl, rfl, rfl, trivial⟩, hB⟩
    ·
      refine eG 3 8 (.move (.tmp 1)) 3 (2, false) (.int .i64 n) (g2 7 hc9) h8 fun q21 h22 => ?_
      clear h8
      refine eG 4 9 (.move (.tmp 0)) 35 (2, false) (.slice A l.length c) (g2 7 hc9) h22 fun q23 h24 => ?_
      clear h22
      refine eG 5 10 (.call { callee := .builtin .len, args := #[.tmp 9], argTypes := #[35] }) 3 (2, false) (.int .i64 ((l.length : Nat) : Int)) (g2 7 hc9) h24 fun q25 h26 => ?_
      clear h24
      refine eG 6 11 (.binOp .geq 3 (.tmp 8) (.tmp 10) 3) 4 (2, false) (.bool (decide (((l.length : Nat) : Int) ≤ n))) (g2 7 hc9) h26 fun q27 h28 => ?_
      clear h26
      refine eE 7 12 (.pick (.tmp 7) (.const (.bool true)) (.tmp 11)) 4 (.bool ((decide (n < (0 : Int))) || (decide (((l.length : Nat) : Int) ≤ n)))) h28 (hr := r_or (c := decide (n < (0 : Int))) (d := (decide (((l.length : Nat) : Int) ≤ n))) (by kernel_rfl) (fun _ => by kernel_rfl)) fun q29 h30 => ?_
      clear h28
      exact ⟨h30.keep _ ⟨rfl, rfl, rfl, rfl, trivial⟩, hB⟩
  rintro q31 w32 ⟨h33, hB34⟩
  refine wpO_end ?_
  refine then_n ?_
  refine c_cond (t := 12) (b := (decide (n < (0 : Int))) || (decide (((l.length : Nat) : Int) ≤ n))) h33 (by kernel_rfl) (by kernel_rfl) (fun hc35 => ?_) (fun hc35 => ?_)
  ·
    refine c_seq (by kernel_rfl) ?_
    refine reg_plain [(0, false)] (by kernel_rfl) (by kernel_rfl) ?_
    refine eE 0 4 (.assign (.const (.string { data := #[] }))) 9 (.string (⟨#[]⟩ : ByteArray)) h33 fun q36 h37 => ?_
    clear h33
    refine wpO_end ?_
    have h38 := h37.keep [(4, .string (⟨#[]⟩ : ByteArray)), (0, .slice A l.length c), (1, .int .i64 n)] ⟨rfl, rfl, rfl, trivial⟩
    clear h37
    refine then_n ?_
    refine c_ret (by kernel_rfl) ?_
    refine then_r ?_
    refine ret1 (t := 4) (v := .string (⟨#[]⟩ : ByteArray)) h38 (by kernel_rfl) (by kernel_rfl) ?_
    exact ⟨ret_eq (congrArg Value.string ((cT hc35)).symm), hB34.bel⟩
  ·
    have hb : 0 ≤ n ∧ n < (l.length : Int) := by have := hc35; simp at this; omega
    obtain ⟨ad, hA, hE0⟩ := hr.el (n.toNat * 1) [.string (l.getD n.toNat ⟨#[]⟩)] (by simp) (strC_get l n.toNat (by omega))
    subst hA
    refine c_skip (by kernel_rfl) ?_
    refine then_n ?_
    refine c_seq (by kernel_rfl) ?_
    refine reg_plain [(0, false), (1, false), (2, false), (3, false), (4, false)] (by kernel_rfl) (by kernel_rfl) ?_
    refine eE 0 13 (.move (.tmp 0)) 35 (.slice (some ad) l.length c) h33 fun q39 h40 => ?_
    clear h33
    refine eE 1 14 (.move (.tmp 1)) 3 (.int .i64 n) h40 fun q41 h42 => ?_
    clear h40
    refine eE 2 15 (.indexAddr 35 (.tmp 13) (.tmp 14)) 0 (.pointer (some ((ad.add (n.toNat * 1)).add 0))) h42 (hr := r_index0 (n := l.length) (c := c) (kd := .i64) (by kernel_rfl) (congrArg (Value.int .i64) (by omega : n = ((n.toNat : Nat) : Int))) (by omega) (by kernel_rfl)) fun q43 h44 => ?_
    clear h42
    refine eE 3 16 (.load 9 (.tmp 15)) 9 (.string (l.getD n.toNat ⟨#[]⟩)) h44 (hr := r_loadF (o := 0) (v := .string (l.getD n.toNat ⟨#[]⟩)) (hE0.below hB34.bel) (by kernel_rfl) (by kernel_rfl) (by kernel_rfl)) fun q45 h46 => ?_
    clear h44
    refine eE 4 4 (.assign (.tmp 16)) 9 (.string (l.getD n.toNat ⟨#[]⟩)) h46 fun q47 h48 => ?_
    clear h46
    refine wpO_end ?_
    have h49 := h48.keep [(4, .string (l.getD n.toNat ⟨#[]⟩))] ⟨rfl, trivial⟩
    clear h48
    refine then_n ?_
    refine c_ret (by kernel_rfl) ?_
    refine ret1 (t := 4) (v := .string (l.getD n.toNat ⟨#[]⟩)) h49 (by kernel_rfl) (by kernel_rfl) ?_
    exact ⟨ret_eq (congrArg Value.string ((cF hc35)).symm), hB34.bel⟩

set_option maxHeartbeats 4000000 in
set_option maxRecDepth 20000 in
theorem c19 (n : Int) (w : World) (h0 : Rd w (some ⟨0, 0, none⟩) (strC kindL)) : Calls Tryd.prog 19 #[.int .i64 n] w fun e w' => e = .returned (.string (nameB kindL n)) ∧ Below w.heap.size w w' := by
  refine enter Tryd.func19 (by kernel_rfl) ?_ (by kernel_rfl)
  intro q0 h0
  replace h0 := h0.conv (l' := [(0, .int .i64 n)]) rfl
  have hB := Bx.refl w
  refine c_seq (by kernel_rfl) ?_
  refine reg_plain [(0, false)] (by kernel_rfl) (by kernel_rfl) ?_
  refine eE 0 2 (.assign (.const (.string { data := #[] }))) 9 (.string (⟨#[]⟩ : ByteArray)) h0 fun q1 h2 => ?_
  clear h0
  refine wpO_end ?_
  refine then_n ?_
  refine c_seq (by kernel_rfl) ?_
  refine reg_plain [(0, false), (1, false), (2, false), (3, false)] (by kernel_rfl) (by kernel_rfl) ?_
  refine eE 0 3 (.slice 78 (.global 0) none none none) 35 (.slice (some ⟨0, 0, none⟩) 5 5) h2 fun q3 h4 => ?_
  clear h2
  refine eE 1 4 (.move (.tmp 0)) 3 (.int .i64 n) h4 fun q5 h6 => ?_
  clear h4
  refine stC (i := 2) (d := 5) (op := Op.call { callee := Callee.value (Operand.func 52), args := #[Operand.tmp 3, Operand.tmp 4], argTypes := #[35, 3] }) (ty := 9) (g := none) (f := 52) (args := #[.slice (some ⟨0, 0, none⟩) 5 5, .int .i64 n]) (w1 := w) h6 (by kernel_rfl) (by kernel_rfl) (by kernel_rfl) gok_none (by kernel_rfl) (c52 kindL (some ⟨0, 0, none⟩) 5 n w (h0.below hB.bel)) ?_
  rintro _ w9 ⟨rfl, hb10⟩
  have hB11 := hB.call hb10
  refine ⟨_, rfl, trivial, fun q7 h8 => ?_⟩
  clear h6 hB hb10
  refine eE 3 2 (.assign (.tmp 5)) 9 (.string (nameB kindL n)) h8 fun q12 h13 => ?_
  clear h8
  refine wpO_end ?_
  have h14 := h13.keep [(2, .string (nameB kindL n))] ⟨rfl, trivial⟩
  clear h13
  refine then_n ?_
  refine c_ret (by kernel_rfl) ?_
  refine ret1 (t := 2) (v := .string (nameB kindL n)) h14 (by kernel_rfl) (by kernel_rfl) ?_
  exact ⟨ret_eq (rfl), hB11.bel⟩

set_option maxHeartbeats 4000000 in
set_option maxRecDepth 20000 in
theorem c21 (n : Int) (w : World) (h1 : Rd w (some ⟨1, 0, none⟩) (strC operL)) : Calls Tryd.prog 21 #[.int .i64 n] w fun e w' => e = .returned (.string (nameB operL n)) ∧ Below w.heap.size w w' := by
  refine enter Tryd.func21 (by kernel_rfl) ?_ (by kernel_rfl)
  intro q0 h0
  replace h0 := h0.conv (l' := [(0, .int .i64 n)]) rfl
  have hB := Bx.refl w
  refine c_seq (by kernel_rfl) ?_
  refine reg_plain [(0, false)] (by kernel_rfl) (by kernel_rfl) ?_
  refine eE 0 2 (.assign (.const (.string { data := #[] }))) 9 (.string (⟨#[]⟩ : ByteArray)) h0 fun q1 h2 => ?_
  clear h0
  refine wpO_end ?_
  refine then_n ?_
  refine c_seq (by kernel_rfl) ?_
  refine reg_plain [(0, false), (1, false), (2, false), (3, false)] (by kernel_rfl) (by kernel_rfl) ?_
  refine eE 0 3 (.slice 78 (.global 1) none none none) 35 (.slice (some ⟨1, 0, none⟩) 5 5) h2 fun q3 h4 => ?_
  clear h2
  refine eE 1 4 (.move (.tmp 0)) 3 (.int .i64 n) h4 fun q5 h6 => ?_
  clear h4
  refine stC (i := 2) (d := 5) (op := Op.call { callee := Callee.value (Operand.func 52), args := #[Operand.tmp 3, Operand.tmp 4], argTypes := #[35, 3] }) (ty := 9) (g := none) (f := 52) (args := #[.slice (some ⟨1, 0, none⟩) 5 5, .int .i64 n]) (w1 := w) h6 (by kernel_rfl) (by kernel_rfl) (by kernel_rfl) gok_none (by kernel_rfl) (c52 operL (some ⟨1, 0, none⟩) 5 n w (h1.below hB.bel)) ?_
  rintro _ w9 ⟨rfl, hb10⟩
  have hB11 := hB.call hb10
  refine ⟨_, rfl, trivial, fun q7 h8 => ?_⟩
  clear h6 hB hb10
  refine eE 3 2 (.assign (.tmp 5)) 9 (.string (nameB operL n)) h8 fun q12 h13 => ?_
  clear h8
  refine wpO_end ?_
  have h14 := h13.keep [(2, .string (nameB operL n))] ⟨rfl, trivial⟩
  clear h13
  refine then_n ?_
  refine c_ret (by kernel_rfl) ?_
  refine ret1 (t := 2) (v := .string (nameB operL n)) h14 (by kernel_rfl) (by kernel_rfl) ?_
  exact ⟨ret_eq (rfl), hB11.bel⟩

set_option maxHeartbeats 4000000 in
set_option maxRecDepth 20000 in
theorem c22 (n : Int) (w : World) (h2 : Rd w (some ⟨2, 0, none⟩) (strC prioL)) : Calls Tryd.prog 22 #[.int .i64 n] w fun e w' => e = .returned (.string (nameB prioL n)) ∧ Below w.heap.size w w' := by
  refine enter Tryd.func22 (by kernel_rfl) ?_ (by kernel_rfl)
  intro q0 h0
  replace h0 := h0.conv (l' := [(0, .int .i64 n)]) rfl
  have hB := Bx.refl w
  refine c_seq (by kernel_rfl) ?_
  refine reg_plain [(0, false)] (by kernel_rfl) (by kernel_rfl) ?_
  refine eE 0 2 (.assign (.const (.string { data := #[] }))) 9 (.string (⟨#[]⟩ : ByteArray)) h0 fun q1 h2 => ?_
  clear h0
  refine wpO_end ?_
  refine then_n ?_
  refine c_seq (by kernel_rfl) ?_
  refine reg_plain [(0, false), (1, false), (2, false), (3, false)] (by kernel_rfl) (by kernel_rfl) ?_
  refine eE 0 3 (.slice 79 (.global 2) none none none) 35 (.slice (some ⟨2, 0, none⟩) 3 3) h2 fun q3 h4 => ?_
  clear h2
  refine eE 1 4 (.move (.tmp 0)) 3 (.int .i64 n) h4 fun q5 h6 => ?_
  clear h4
  refine stC (i := 2) (d := 5) (op := Op.call { callee := Callee.value (Operand.func 52), args := #[Operand.tmp 3, Operand.tmp 4], argTypes := #[35, 3] }) (ty := 9) (g := none) (f := 52) (args := #[.slice (some ⟨2, 0, none⟩) 3 3, .int .i64 n]) (w1 := w) h6 (by kernel_rfl) (by kernel_rfl) (by kernel_rfl) gok_none (by kernel_rfl) (c52 prioL (some ⟨2, 0, none⟩) 3 n w (h2.below hB.bel)) ?_
  rintro _ w9 ⟨rfl, hb10⟩
  have hB11 := hB.call hb10
  refine ⟨_, rfl, trivial, fun q7 h8 => ?_⟩
  clear h6 hB hb10
  refine eE 3 2 (.assign (.tmp 5)) 9 (.string (nameB prioL n)) h8 fun q12 h13 => ?_
  clear h8
  refine wpO_end ?_
  have h14 := h13.keep [(2, .string (nameB prioL n))] ⟨rfl, trivial⟩
  clear h13
  refine then_n ?_
  refine c_ret (by kernel_rfl) ?_
  refine ret1 (t := 2) (v := .string (nameB prioL n)) h14 (by kernel_rfl) (by kernel_rfl) ?_
  exact ⟨ret_eq (rfl), hB11.bel⟩

set_option maxHeartbeats 4000000 in
set_option maxRecDepth 20000 in
theorem law5 (n : Int) (w : World) (h0 : Rd w (some ⟨0, 0, none⟩) (strC kindL)) (h1 : Rd w (some ⟨1, 0, none⟩) (strC operL)) (h2 : Rd w (some ⟨2, 0, none⟩) (strC prioL)) : Calls Tryd.prog 5 #[.int .i64 n] w fun e w' => e = .returned (.bool true) ∧ Below w.heap.size w w' := by
  refine enter Tryd.func5 (by kernel_rfl) ?_ (by kernel_rfl)
  intro q0 h0
  replace h0 := h0.conv (l' := [(0, .int .i64 n)]) rfl
  have hB := Bx.refl w
  refine c_seq (by kernel_rfl) ?_
  refine reg_plain [(0, false)] (by kernel_rfl) (by kernel_rfl) ?_
  refine eE 0 2 (.assign (.const (.bool false))) 4 (.bool false) h0 fun q1 h2 => ?_
  clear h0
  refine wpO_end ?_
  refine then_n ?_
  refine c_seq (by kernel_rfl) ?_
  refine reg_plain [(0, false), (1, false)] (by kernel_rfl) (by kernel_rfl) ?_
  refine stA (i := 0) (d := 7) (op := Op.buildSlice 35 5 #[(0, Operand.const (Value.string { data := #[112, 97, 121, 109, 101, 110, 116] })), (1, Operand.const (Value.string { data := #[100, 118, 112] })), (2, Operand.const (Value.string { data := #[102, 114, 101, 101] })), (3, Operand.const (Value.string { data := #[112, 108, 101, 100, 103, 101] })), (4, Operand.const (Value.string { data := #[114, 101, 108, 101, 97, 115, 101] }))]) (ty := 35) (g := none) (mk := fun b => .slice (some ⟨b, 0, none⟩) 5 5) (o := .cells #[.string (⟨#[112, 97, 121, 109, 101, 110, 116]⟩ : ByteArray), .string (⟨#[100, 118, 112]⟩ : ByteArray), .string (⟨#[102, 114, 101, 101]⟩ : ByteArray), .string (⟨#[112, 108, 101, 100, 103, 101]⟩ : ByteArray), .string (⟨#[114, 101, 108, 101, 97, 115, 101]⟩ : ByteArray)] 9 (0, 0)) h2 (by kernel_rfl) (by kernel_rfl) (by kernel_rfl) gok_none (fun _ => by kernel_rfl) hB (fun _ _ hq => trivial) (fun b5 w6 hB7 hN q3 h4 => ?_)
  clear h2 hB hN
  refine eE 1 3 (.assign (.tmp 7)) 35 (.slice (some ⟨b5, 0, none⟩) 5 5) h4 fun q8 h9 => ?_
  clear h4
  refine wpO_end ?_
  have h10 := h9.keep [(3, .slice (some ⟨b5, 0, none⟩) 5 5), (2, .bool false), (0, .int .i64 n)] ⟨rfl, rfl, rfl, trivial⟩
  clear h9
  refine then_n ?_
  refine c_seq (by kernel_rfl) ?_
  refine reg_plain [(0, false), (1, false)] (by kernel_rfl) (by kernel_rfl) ?_
  refine stA (i := 0) (d := 8) (op := Op.buildSlice 35 5 #[(0, Operand.const (Value.string { data := #[115, 117, 98, 109, 105, 116] })), (1, Operand.const (Value.string { data := #[97, 109, 101, 110, 100] })), (2, Operand.const (Value.string { data := #[99, 97, 110, 99, 101, 108] })), (3, Operand.const (Value.string { data := #[104, 111, 108, 100] })), (4, Operand.const (Value.string { data := #[114, 101, 115, 117, 109, 101] }))]) (ty := 35) (g := none) (mk := fun b => .slice (some ⟨b, 0, none⟩) 5 5) (o := .cells #[.string (⟨#[115, 117, 98, 109, 105, 116]⟩ : ByteArray), .string (⟨#[97, 109, 101, 110, 100]⟩ : ByteArray), .string (⟨#[99, 97, 110, 99, 101, 108]⟩ : ByteArray), .string (⟨#[104, 111, 108, 100]⟩ : ByteArray), .string (⟨#[114, 101, 115, 117, 109, 101]⟩ : ByteArray)] 9 (0, 0)) h10 (by kernel_rfl) (by kernel_rfl) (by kernel_rfl) gok_none (fun _ => by kernel_rfl) hB7 (fun _ _ hq => trivial) (fun b13 w14 hB15 hN q11 h12 => ?_)
  clear h10 hB7 hN
  refine eE 1 4 (.assign (.tmp 8)) 35 (.slice (some ⟨b13, 0, none⟩) 5 5) h12 fun q16 h17 => ?_
  clear h12
  refine wpO_end ?_
  have h18 := h17.keep [(4, .slice (some ⟨b13, 0, none⟩) 5 5), (3, .slice (some ⟨b5, 0, none⟩) 5 5), (2, .bool false), (0, .int .i64 n)] ⟨rfl, rfl, rfl, rfl, trivial⟩
  clear h17
  refine then_n ?_
  refine c_seq (by kernel_rfl) ?_
  refine reg_plain [(0, false), (1, false)] (by kernel_rfl) (by kernel_rfl) ?_
  refine stA (i := 0) (d := 9) (op := Op.buildSlice 35 3 #[(0, Operand.const (Value.string { data := #[110, 111, 114, 109, 97, 108] })), (1, Operand.const (Value.string { data := #[104, 105, 103, 104] })), (2, Operand.const (Value.string { data := #[117, 114, 103, 101, 110, 116] }))]) (ty := 35) (g := none) (mk := fun b => .slice (some ⟨b, 0, none⟩) 3 3) (o := .cells #[.string (⟨#[110, 111, 114, 109, 97, 108]⟩ : ByteArray), .string (⟨#[104, 105, 103, 104]⟩ : ByteArray), .string (⟨#[117, 114, 103, 101, 110, 116]⟩ : ByteArray)] 9 (0, 0)) h18 (by kernel_rfl) (by kernel_rfl) (by kernel_rfl) gok_none (fun _ => by kernel_rfl) hB15 (fun _ _ hq => trivial) (fun b21 w22 hB23 hN q19 h20 => ?_)
  clear h18 hB15 hN
  refine eE 1 5 (.assign (.tmp 9)) 35 (.slice (some ⟨b21, 0, none⟩) 3 3) h20 fun q24 h25 => ?_
  clear h20
  refine wpO_end ?_
  have h26 := h25.keep [(5, .slice (some ⟨b21, 0, none⟩) 3 3), (4, .slice (some ⟨b13, 0, none⟩) 5 5), (3, .slice (some ⟨b5, 0, none⟩) 5 5), (2, .bool false), (0, .int .i64 n)] ⟨rfl, rfl, rfl, rfl, rfl, trivial⟩
  clear h25
  refine then_n ?_
  refine c_seq (by kernel_rfl) ?_
  refine c_seq (by kernel_rfl) ?_
  refine reg_plain [(0, false)] (by kernel_rfl) (by kernel_rfl) ?_
  refine eE 0 6 (.assign (.const (.int .i64 (-1)))) 3 (.int .i64 (-1)) h26 fun q27 h28 => ?_
  clear h26
  refine wpO_end ?_
  refine then_n ?_
  refine c_block 0 (by kernel_rfl) ?_
  refine c_loop (by kernel_rfl) (fun qa qw => ∃ k : Nat, (k ≤ 7) ∧ Fr 61 [(0, .int .i64 n), (3, .slice (some ⟨b5, 0, none⟩) 5 5), (4, .slice (some ⟨b13, 0, none⟩) 5 5), (5, .slice (some ⟨b21, 0, none⟩) 3 3), (6, .int .i64 (((k : Nat) : Int) - 1))] qa ∧ Bx w [(b21, .cells #[.string (⟨#[110, 111, 114, 109, 97, 108]⟩ : ByteArray), .string (⟨#[104, 105, 103, 104]⟩ : ByteArray), .string (⟨#[117, 114, 103, 101, 110, 116]⟩ : ByteArray)] 9 (0, 0)), (b13, .cells #[.string (⟨#[115, 117, 98, 109, 105, 116]⟩ : ByteArray), .string (⟨#[97, 109, 101, 110, 100]⟩ : ByteArray), .string (⟨#[99, 97, 110, 99, 101, 108]⟩ : ByteArray), .string (⟨#[104, 111, 108, 100]⟩ : ByteArray), .string (⟨#[114, 101, 115, 117, 109, 101]⟩ : ByteArray)] 9 (0, 0)), (b5, .cells #[.string (⟨#[112, 97, 121, 109, 101, 110, 116]⟩ : ByteArray), .string (⟨#[100, 118, 112]⟩ : ByteArray), .string (⟨#[102, 114, 101, 101]⟩ : ByteArray), .string (⟨#[112, 108, 101, 100, 103, 101]⟩ : ByteArray), .string (⟨#[114, 101, 108, 101, 97, 115, 101]⟩ : ByteArray)] 9 (0, 0))] qw) (fun qa _ => (((6 : Int)) - intAt qa 6).toNat) ⟨0, Nat.zero_le _, h28.keep _ ⟨rfl, rfl, rfl, rfl, rfl, trivial⟩, hB23⟩ ?_
  rintro q29 w30 ⟨k, hk33, h31, hB32⟩
  have hm34 := h31.int (k := 6) (kd := .i64) (z := (((k : Nat) : Int) - 1)) rfl
  clear h28 hB23
  refine c_seq (by kernel_rfl) ?_
  refine c_seq (by kernel_rfl) ?_
  refine reg_plain [(0, false), (1, false)] (by kernel_rfl) (by kernel_rfl) ?_
  refine eE 0 10 (.move (.tmp 6)) 3 (.int .i64 (((k : Nat) : Int) - 1)) h31 fun q35 h36 => ?_
  clear h31
  refine eE 1 11 (.binOp .leq 3 (.tmp 10) (.const (.int .i64 5)) 3) 4 (.bool (decide ((((k : Nat) : Int) - 1) ≤ (5 : Int)))) h36 fun q37 h38 => ?_
  clear h36
  refine wpO_end ?_
  refine then_n ?_
  refine c_cond (t := 11) (b := decide ((((k : Nat) : Int) - 1) ≤ (5 : Int))) h38 (by kernel_rfl) (by kernel_rfl) (fun hc39 => ?_) (fun hc39 => ?_)
  ·
    have hp40 : ((((k : Nat) : Int) - 1) ≤ (5 : Int)) := of_decide_eq_true hc39
    refine c_skip (by kernel_rfl) ?_
    refine then_n ?_
    refine c_seq (by kernel_rfl) ?_
    refine c_block 1 (by kernel_rfl) ?_
    refine c_seq (by kernel_rfl) ?_
    refine reg_plain [(0, false), (1, false), (2, false), (3, false), (4, false), (5, false), (6, false), (7, false), (8, false), (9, false), (10, false), (11, false), (12, false), (13, false), (14, false), (15, false), (16, false), (17, false), (18, false), (19, false), (20, false), (21, false)] (by kernel_rfl) (by kernel_rfl) ?_
    refine eE 0 14 (.move (.tmp 6)) 3 (.int .i64 (((k : Nat) : Int) - 1)) h38 fun q41 h42 => ?_
    clear h38
    refine stC (i := 1) (d := 15) (op := Op.call { callee := Callee.value (Operand.func 19), args := #[Operand.tmp 14], argTypes := #[3] }) (ty := 9) (g := none) (f := 19) (args := #[.int .i64 (((k : Nat) : Int) - 1)]) (w1 := w30) h42 (by kernel_rfl) (by kernel_rfl) (by kernel_rfl) gok_none (by kernel_rfl) (c19 (((k : Nat) : Int) - 1) w30 (h0.below hB32.bel)) ?_
    rintro _ w45 ⟨rfl, hb46⟩
    have hB47 := hB32.call hb46
    refine ⟨_, rfl, trivial, fun q43 h44 => ?_⟩
    clear h42 hB32 hb46
    refine eE 2 16 (.move (.tmp 3)) 35 (.slice (some ⟨b5, 0, none⟩) 5 5) h44 fun q48 h49 => ?_
    clear h44
    refine eE 3 17 (.move (.tmp 6)) 3 (.int .i64 (((k : Nat) : Int) - 1)) h49 fun q50 h51 => ?_
    clear h49
    refine stC (i := 4) (d := 18) (op := Op.call { callee := Callee.value (Operand.func 20), args := #[Operand.tmp 16, Operand.tmp 17], argTypes := #[35, 3] }) (ty := 9) (g := none) (f := 20) (args := #[.slice (some ⟨b5, 0, none⟩) 5 5, .int .i64 (((k : Nat) : Int) - 1)]) (w1 := w45) h51 (by kernel_rfl) (by kernel_rfl) (by kernel_rfl) gok_none (by kernel_rfl) (c20 kindL (some ⟨b5, 0, none⟩) 5 (((k : Nat) : Int) - 1) w45 (show Rd _ _ (strC kindL) from Rd.of_blk (hB47.at 2 rfl))) ?_
    rintro _ w54 ⟨rfl, hb55⟩
    have hB56 := hB47.call hb55
    refine ⟨_, rfl, trivial, fun q52 h53 => ?_⟩
    clear h51 hB47 hb55
    refine eE 5 19 (.binOp .neq 9 (.tmp 15) (.tmp 18) 9) 4 (.bool ((nameB kindL (((k : Nat) : Int) - 1)).toList != (nameB kindL (((k : Nat) : Int) - 1)).toList)) h53 fun q57 h58 => ?_
    clear h53
    have h59 := h58.keep [(19, .bool false), (18, .string (nameB kindL (((k : Nat) : Int) - 1))), (17, .int .i64 (((k : Nat) : Int) - 1)), (16, .slice (some ⟨b5, 0, none⟩) 5 5), (15, .string (nameB kindL (((k : Nat) : Int) - 1))), (14, .int .i64 (((k : Nat) : Int) - 1)), (11, .bool (decide ((((k : Nat) : Int) - 1) ≤ (5 : Int)))), (10, .int .i64 (((k : Nat) : Int) - 1)), (0, .int .i64 n), (3, .slice (some ⟨b5, 0, none⟩) 5 5), (4, .slice (some ⟨b13, 0, none⟩) 5 5), (5, .slice (some ⟨b21, 0, none⟩) 3 3), (6, .int .i64 (((k : Nat) : Int) - 1))] ⟨look_bool rfl (same_word' _), rfl, rfl, rfl, rfl, rfl, rfl, rfl, rfl, rfl, rfl, rfl, rfl, trivial⟩
    clear h58
    refine eE 6 20 (.move (.tmp 19)) 4 (.bool false) h59 fun q60 h61 => ?_
    clear h59
    refine eG 7 21 (.move (.tmp 6)) 3 (6, false) (.int .i64 (((k : Nat) : Int) - 1)) (g2 20 (rfl : false = false)) h61 fun q62 h63 => ?_
    clear h61
    refine stC (i := 8) (d := 22) (op := Op.call { callee := Callee.value (Operand.func 21), args := #[Operand.tmp 21], argTypes := #[3] }) (ty := 9) (g := (some (6, false))) (f := 21) (args := #[.int .i64 (((k : Nat) : Int) - 1)]) (w1 := w54) h63 (by kernel_rfl) (by kernel_rfl) (by kernel_rfl) (g2 20 (rfl : false = false)) (by kernel_rfl) (c21 (((k : Nat) : Int) - 1) w54 (h1.below hB56.bel)) ?_
    rintro _ w66 ⟨rfl, hb67⟩
    have hB68 := hB56.call hb67
    refine ⟨_, rfl, trivial, fun q64 h65 => ?_⟩
    clear h63 hB56 hb67
    refine eG 9 23 (.move (.tmp 4)) 35 (6, false) (.slice (some ⟨b13, 0, none⟩) 5 5) (g2 20 (rfl : false = false)) h65 fun q69 h70 => ?_
    clear h65
    refine eG 10 24 (.move (.tmp 6)) 3 (6, false) (.int .i64 (((k : Nat) : Int) - 1)) (g2 20 (rfl : false = false)) h70 fun q71 h72 => ?_
    clear h70
    refine stC (i := 11) (d := 25) (op := Op.call { callee := Callee.value (Operand.func 20), args := #[Operand.tmp 23, Operand.tmp 24], argTypes := #[35, 3] }) (ty := 9) (g := (some (6, false))) (f := 20) (args := #[.slice (some ⟨b13, 0, none⟩) 5 5, .int .i64 (((k : Nat) : Int) - 1)]) (w1 := w66) h72 (by kernel_rfl) (by kernel_rfl) (by kernel_rfl) (g2 20 (rfl : false = false)) (by kernel_rfl) (c20 operL (some ⟨b13, 0, none⟩) 5 (((k : Nat) : Int) - 1) w66 (show Rd _ _ (strC operL) from Rd.of_blk (hB68.at 1 rfl))) ?_
    rintro _ w75 ⟨rfl, hb76⟩
    have hB77 := hB68.call hb76
    refine ⟨_, rfl, trivial, fun q73 h74 => ?_⟩
    clear h72 hB68 hb76
    refine eG 12 26 (.binOp .neq 9 (.tmp 22) (.tmp 25) 9) 4 (6, false) (.bool ((nameB operL (((k : Nat) : Int) - 1)).toList != (nameB operL (((k : Nat) : Int) - 1)).toList)) (g2 20 (rfl : false = false)) h74 fun q78 h79 => ?_
    clear h74
    have h80 := h79.keep [(26, .bool false), (25, .string (nameB operL (((k : Nat) : Int) - 1))), (24, .int .i64 (((k : Nat) : Int) - 1)), (23, .slice (some ⟨b13, 0, none⟩) 5 5), (22, .string (nameB operL (((k : Nat) : Int) - 1))), (21, .int .i64 (((k : Nat) : Int) - 1)), (20, .bool false), (19, .bool false), (18, .string (nameB kindL (((k : Nat) : Int) - 1))), (17, .int .i64 (((k : Nat) : Int) - 1)), (16, .slice (some ⟨b5, 0, none⟩) 5 5), (15, .string (nameB kindL (((k : Nat) : Int) - 1))), (14, .int .i64 (((k : Nat) : Int) - 1)), (11, .bool (decide ((((k : Nat) : Int) - 1) ≤ (5 : Int)))), (10, .int .i64 (((k : Nat) : Int) - 1)), (0, .int .i64 n), (3, .slice (some ⟨b5, 0, none⟩) 5 5), (4, .slice (some ⟨b13, 0, none⟩) 5 5), (5, .slice (some ⟨b21, 0, none⟩) 3 3), (6, .int .i64 (((k : Nat) : Int) - 1))] ⟨look_bool rfl (same_word' _), rfl, rfl, rfl, rfl, rfl, rfl, rfl, rfl, rfl, rfl, rfl, rfl, rfl, rfl, rfl, rfl, rfl, rfl, rfl, trivial⟩
    clear h79
    refine eE 13 27 (.pick (.tmp 20) (.const (.bool true)) (.tmp 26)) 4 (.bool false) h80 fun q81 h82 => ?_
    clear h80
    refine eE 14 28 (.move (.tmp 27)) 4 (.bool false) h82 fun q83 h84 => ?_
    clear h82
    refine eG 15 29 (.move (.tmp 6)) 3 (14, false) (.int .i64 (((k : Nat) : Int) - 1)) (g2 28 (rfl : false = false)) h84 fun q85 h86 => ?_
    clear h84
    refine stC (i := 16) (d := 30) (op := Op.call { callee := Callee.value (Operand.func 22), args := #[Operand.tmp 29], argTypes := #[3] }) (ty := 9) (g := (some (14, false))) (f := 22) (args := #[.int .i64 (((k : Nat) : Int) - 1)]) (w1 := w75) h86 (by kernel_rfl) (by kernel_rfl) (by kernel_rfl) (g2 28 (rfl : false = false)) (by kernel_rfl) (c22 (((k : Nat) : Int) - 1) w75 (h2.below hB77.bel)) ?_
    rintro _ w89 ⟨rfl, hb90⟩
    have hB91 := hB77.call hb90
    refine ⟨_, rfl, trivial, fun q87 h88 => ?_⟩
    clear h86 hB77 hb90
    refine eG 17 31 (.move (.tmp 5)) 35 (14, false) (.slice (some ⟨b21, 0, none⟩) 3 3) (g2 28 (rfl : false = false)) h88 fun q92 h93 => ?_
    clear h88
    refine eG 18 32 (.move (.tmp 6)) 3 (14, false) (.int .i64 (((k : Nat) : Int) - 1)) (g2 28 (rfl : false = false)) h93 fun q94 h95 => ?_
    clear h93
    refine stC (i := 19) (d := 33) (op := Op.call { callee := Callee.value (Operand.func 20), args := #[Operand.tmp 31, Operand.tmp 32], argTypes := #[35, 3] }) (ty := 9) (g := (some (14, false))) (f := 20) (args := #[.slice (some ⟨b21, 0, none⟩) 3 3, .int .i64 (((k : Nat) : Int) - 1)]) (w1 := w89) h95 (by kernel_rfl) (by kernel_rfl) (by kernel_rfl) (g2 28 (rfl : false = false)) (by kernel_rfl) (c20 prioL (some ⟨b21, 0, none⟩) 3 (((k : Nat) : Int) - 1) w89 (show Rd _ _ (strC prioL) from Rd.of_blk (hB91.at 0 rfl))) ?_
    rintro _ w98 ⟨rfl, hb99⟩
    have hB100 := hB91.call hb99
    refine ⟨_, rfl, trivial, fun q96 h97 => ?_⟩
    clear h95 hB91 hb99
    refine eG 20 34 (.binOp .neq 9 (.tmp 30) (.tmp 33) 9) 4 (14, false) (.bool ((nameB prioL (((k : Nat) : Int) - 1)).toList != (nameB prioL (((k : Nat) : Int) - 1)).toList)) (g2 28 (rfl : false = false)) h97 fun q101 h102 => ?_
    clear h97
    have h103 := h102.keep [(34, .bool false), (33, .string (nameB prioL (((k : Nat) : Int) - 1))), (32, .int .i64 (((k : Nat) : Int) - 1)), (31, .slice (some ⟨b21, 0, none⟩) 3 3), (30, .string (nameB prioL (((k : Nat) : Int) - 1))), (29, .int .i64 (((k : Nat) : Int) - 1)), (28, .bool false), (27, .bool false), (26, .bool false), (25, .string (nameB operL (((k : Nat) : Int) - 1))), (24, .int .i64 (((k : Nat) : Int) - 1)), (23, .slice (some ⟨b13, 0, none⟩) 5 5), (22, .string (nameB operL (((k : Nat) : Int) - 1))), (21, .int .i64 (((k : Nat) : Int) - 1)), (20, .bool false), (19, .bool false), (18, .string (nameB kindL (((k : Nat) : Int) - 1))), (17, .int .i64 (((k : Nat) : Int) - 1)), (16, .slice (some ⟨b5, 0, none⟩) 5 5), (15, .string (nameB kindL (((k : Nat) : Int) - 1))), (14, .int .i64 (((k : Nat) : Int) - 1)), (11, .bool (decide ((((k : Nat) : Int) - 1) ≤ (5 : Int)))), (10, .int .i64 (((k : Nat) : Int) - 1)), (0, .int .i64 n), (3, .slice (some ⟨b5, 0, none⟩) 5 5), (4, .slice (some ⟨b13, 0, none⟩) 5 5), (5, .slice (some ⟨b21, 0, none⟩) 3 3), (6, .int .i64 (((k : Nat) : Int) - 1))] ⟨look_bool rfl (same_word' _), rfl, rfl, rfl, rfl, rfl, rfl, rfl, rfl, rfl, rfl, rfl, rfl, rfl, rfl, rfl, rfl, rfl, rfl, rfl, rfl, rfl, rfl, rfl, rfl, rfl, rfl, rfl, trivial⟩
    clear h102
    refine eE 21 35 (.pick (.tmp 28) (.const (.bool true)) (.tmp 34)) 4 (.bool false) h103 fun q104 h105 => ?_
    clear h103
    refine wpO_end ?_
    refine then_n ?_
    refine c_cond (t := 35) (b := false) h105 (by kernel_rfl) (by kernel_rfl) (fun e106 => Bool.noConfusion (e106.symm.trans (rfl))) (fun _ => ?_)
    refine c_skip (by kernel_rfl) ?_
    refine inB_n ?_
    refine then_n ?_
    refine reg_plain [(0, false), (1, false), (2, false)] (by kernel_rfl) (by kernel_rfl) ?_
    refine eE 0 12 (.move (.tmp 6)) 3 (.int .i64 (((k : Nat) : Int) - 1)) h105 fun q107 h108 => ?_
    clear h105
    refine eE 1 13 (.binOp .add 3 (.tmp 12) (.const (.int .i64 1)) 3) 3 (.int .i64 (IntKind.i64.wrap ((((k : Nat) : Int) - 1) + 1))) h108 fun q109 h110 => ?_
    clear h108
    refine eE 2 6 (.assign (.tmp 13)) 3 (.int .i64 (IntKind.i64.wrap ((((k : Nat) : Int) - 1) + 1))) h110 fun q111 h112 => ?_
    clear h110
    refine wpO_end ?_
    have h113 := h112.keep [(6, .int .i64 (IntKind.i64.wrap ((((k : Nat) : Int) - 1) + 1))), (13, .int .i64 (IntKind.i64.wrap ((((k : Nat) : Int) - 1) + 1))), (12, .int .i64 (((k : Nat) : Int) - 1)), (35, .bool false), (34, .bool false), (33, .string (nameB prioL (((k : Nat) : Int) - 1))), (32, .int .i64 (((k : Nat) : Int) - 1)), (31, .slice (some ⟨b21, 0, none⟩) 3 3), (30, .string (nameB prioL (((k : Nat) : Int) - 1))), (29, .int .i64 (((k : Nat) : Int) - 1)), (28, .bool false), (27, .bool false), (26, .bool false), (25, .string (nameB operL (((k : Nat) : Int) - 1))), (24, .int .i64 (((k : Nat) : Int) - 1)), (23, .slice (some ⟨b13, 0, none⟩) 5 5), (22, .string (nameB operL (((k : Nat) : Int) - 1))), (21, .int .i64 (((k : Nat) : Int) - 1)), (20, .bool false), (19, .bool false), (18, .string (nameB kindL (((k : Nat) : Int) - 1))), (17, .int .i64 (((k : Nat) : Int) - 1)), (16, .slice (some ⟨b5, 0, none⟩) 5 5), (15, .string (nameB kindL (((k : Nat) : Int) - 1))), (14, .int .i64 (((k : Nat) : Int) - 1)), (11, .bool (decide ((((k : Nat) : Int) - 1) ≤ (5 : Int)))), (10, .int .i64 (((k : Nat) : Int) - 1)), (0, .int .i64 n), (3, .slice (some ⟨b5, 0, none⟩) 5 5), (4, .slice (some ⟨b13, 0, none⟩) 5 5), (5, .slice (some ⟨b21, 0, none⟩) 3 3)] ⟨rfl, rfl, rfl, rfl, rfl, rfl, rfl, rfl, rfl, rfl, rfl, rfl, rfl, rfl, rfl, rfl, rfl, rfl, rfl, rfl, rfl, rfl, rfl, rfl, rfl, rfl, rfl, rfl, rfl, rfl, rfl, trivial⟩
    clear h112
    have h114 := h113.keep [(0, .int .i64 n), (3, .slice (some ⟨b5, 0, none⟩) 5 5), (4, .slice (some ⟨b13, 0, none⟩) 5 5), (5, .slice (some ⟨b21, 0, none⟩) 3 3), (6, .int .i64 ((((k + 1) : Nat) : Int) - 1))] ⟨rfl, rfl, rfl, rfl, look_int rfl (by rw [wrap_i64 (by omega) (by omega)]; omega), trivial⟩
    have hm115 := h114.int (k := 6) (kd := .i64) (z := ((((k + 1) : Nat) : Int) - 1)) rfl
    refine then_n ⟨⟨k + 1, by omega, h114, hB100⟩, ?_⟩
    show (((6 : Int)) - intAt _ 6).toNat < (((6 : Int)) - intAt _ 6).toNat
    rw [hm34, hm115]; omega
  ·
    have hp116 : ¬ ((((k : Nat) : Int) - 1) ≤ (5 : Int)) := of_decide_eq_false hc39
    refine c_exit 0 (by kernel_rfl) ?_
    refine then_e (then_e (inB_hit ?_))
    refine then_n ?_
    refine c_seq (by kernel_rfl) ?_
    refine reg_plain [(0, false), (1, false), (2, false), (3, false), (4, false), (5, false), (6, false), (7, false), (8, false), (9, false), (10, false), (11, false), (12, false), (13, false), (14, false), (15, false), (16, false), (17, false), (18, false), (19, false), (20, false), (21, false), (22, false), (23, false), (24, false), (25, false)] (by kernel_rfl) (by kernel_rfl) ?_
    refine eE 0 36 (.move (.tmp 0)) 3 (.int .i64 n) h38 fun q117 h118 => ?_
    clear h38
    refine stC (i := 1) (d := 37) (op := Op.call { callee := Callee.value (Operand.func 19), args := #[Operand.tmp 36], argTypes := #[3] }) (ty := 9) (g := none) (f := 19) (args := #[.int .i64 n]) (w1 := w30) h118 (by kernel_rfl) (by kernel_rfl) (by kernel_rfl) gok_none (by kernel_rfl) (c19 n w30 (h0.below hB32.bel)) ?_
    rintro _ w121 ⟨rfl, hb122⟩
    have hB123 := hB32.call hb122
    refine ⟨_, rfl, trivial, fun q119 h120 => ?_⟩
    clear h118 hB32 hb122
    refine eE 2 38 (.move (.tmp 3)) 35 (.slice (some ⟨b5, 0, none⟩) 5 5) h120 fun q124 h125 => ?_
    clear h120
    refine eE 3 39 (.move (.tmp 0)) 3 (.int .i64 n) h125 fun q126 h127 => ?_
    clear h125
    refine stC (i := 4) (d := 40) (op := Op.call { callee := Callee.value (Operand.func 20), args := #[Operand.tmp 38, Operand.tmp 39], argTypes := #[35, 3] }) (ty := 9) (g := none) (f := 20) (args := #[.slice (some ⟨b5, 0, none⟩) 5 5, .int .i64 n]) (w1 := w121) h127 (by kernel_rfl) (by kernel_rfl) (by kernel_rfl) gok_none (by kernel_rfl) (c20 kindL (some ⟨b5, 0, none⟩) 5 n w121 (show Rd _ _ (strC kindL) from Rd.of_blk (hB123.at 2 rfl))) ?_
    rintro _ w130 ⟨rfl, hb131⟩
    have hB132 := hB123.call hb131
    refine ⟨_, rfl, trivial, fun q128 h129 => ?_⟩
    clear h127 hB123 hb131
    refine eE 5 41 (.binOp .eql 9 (.tmp 37) (.tmp 40) 9) 4 (.bool ((nameB kindL n).toList == (nameB kindL n).toList)) h129 fun q133 h134 => ?_
    clear h129
    have h135 := h134.keep [(41, .bool true), (40, .string (nameB kindL n)), (39, .int .i64 n), (38, .slice (some ⟨b5, 0, none⟩) 5 5), (37, .string (nameB kindL n)), (36, .int .i64 n), (11, .bool (decide ((((k : Nat) : Int) - 1) ≤ (5 : Int)))), (10, .int .i64 (((k : Nat) : Int) - 1)), (0, .int .i64 n), (3, .slice (some ⟨b5, 0, none⟩) 5 5), (4, .slice (some ⟨b13, 0, none⟩) 5 5), (5, .slice (some ⟨b21, 0, none⟩) 3 3), (6, .int .i64 (((k : Nat) : Int) - 1))] ⟨look_bool rfl (same_word _), rfl, rfl, rfl, rfl, rfl, rfl, rfl, rfl, rfl, rfl, rfl, rfl, trivial⟩
    clear h134
    refine eE 6 42 (.move (.tmp 41)) 4 (.bool true) h135 fun q136 h137 => ?_
    clear h135
    refine eG 7 43 (.move (.tmp 0)) 3 (6, true) (.int .i64 n) (g1 42 (rfl : true = true)) h137 fun q138 h139 => ?_
    clear h137
    refine stC (i := 8) (d := 44) (op := Op.call { callee := Callee.value (Operand.func 21), args := #[Operand.tmp 43], argTypes := #[3] }) (ty := 9) (g := (some (6, true))) (f := 21) (args := #[.int .i64 n]) (w1 := w130) h139 (by kernel_rfl) (by kernel_rfl) (by kernel_rfl) (g1 42 (rfl : true = true)) (by kernel_rfl) (c21 n w130 (h1.below hB132.bel)) ?_
    rintro _ w142 ⟨rfl, hb143⟩
    have hB144 := hB132.call hb143
    refine ⟨_, rfl, trivial, fun q140 h141 => ?_⟩
    clear h139 hB132 hb143
    refine eG 9 45 (.move (.tmp 4)) 35 (6, true) (.slice (some ⟨b13, 0, none⟩) 5 5) (g1 42 (rfl : true = true)) h141 fun q145 h146 => ?_
    clear h141
    refine eG 10 46 (.move (.tmp 0)) 3 (6, true) (.int .i64 n) (g1 42 (rfl : true = true)) h146 fun q147 h148 => ?_
    clear h146
    refine stC (i := 11) (d := 47) (op := Op.call { callee := Callee.value (Operand.func 20), args := #[Operand.tmp 45, Operand.tmp 46], argTypes := #[35, 3] }) (ty := 9) (g := (some (6, true))) (f := 20) (args := #[.slice (some ⟨b13, 0, none⟩) 5 5, .int .i64 n]) (w1 := w142) h148 (by kernel_rfl) (by kernel_rfl) (by kernel_rfl) (g1 42 (rfl : true = true)) (by kernel_rfl) (c20 operL (some ⟨b13, 0, none⟩) 5 n w142 (show Rd _ _ (strC operL) from Rd.of_blk (hB144.at 1 rfl))) ?_
    rintro _ w151 ⟨rfl, hb152⟩
    have hB153 := hB144.call hb152
    refine ⟨_, rfl, trivial, fun q149 h150 => ?_⟩
    clear h148 hB144 hb152
    refine eG 12 48 (.binOp .eql 9 (.tmp 44) (.tmp 47) 9) 4 (6, true) (.bool ((nameB operL n).toList == (nameB operL n).toList)) (g1 42 (rfl : true = true)) h150 fun q154 h155 => ?_
    clear h150
    have h156 := h155.keep [(48, .bool true), (47, .string (nameB operL n)), (46, .int .i64 n), (45, .slice (some ⟨b13, 0, none⟩) 5 5), (44, .string (nameB operL n)), (43, .int .i64 n), (42, .bool true), (41, .bool true), (40, .string (nameB kindL n)), (39, .int .i64 n), (38, .slice (some ⟨b5, 0, none⟩) 5 5), (37, .string (nameB kindL n)), (36, .int .i64 n), (11, .bool (decide ((((k : Nat) : Int) - 1) ≤ (5 : Int)))), (10, .int .i64 (((k : Nat) : Int) - 1)), (0, .int .i64 n), (3, .slice (some ⟨b5, 0, none⟩) 5 5), (4, .slice (some ⟨b13, 0, none⟩) 5 5), (5, .slice (some ⟨b21, 0, none⟩) 3 3), (6, .int .i64 (((k : Nat) : Int) - 1))] ⟨look_bool rfl (same_word _), rfl, rfl, rfl, rfl, rfl, rfl, rfl, rfl, rfl, rfl, rfl, rfl, rfl, rfl, rfl, rfl, rfl, rfl, rfl, trivial⟩
    clear h155
    refine eE 13 49 (.pick (.tmp 42) (.tmp 48) (.const (.bool false))) 4 (.bool true) h156 fun q157 h158 => ?_
    clear h156
    refine eE 14 50 (.move (.tmp 49)) 4 (.bool true) h158 fun q159 h160 => ?_
    clear h158
    refine eG 15 51 (.move (.tmp 0)) 3 (14, true) (.int .i64 n) (g1 50 (rfl : true = true)) h160 fun q161 h162 => ?_
    clear h160
    refine stC (i := 16) (d := 52) (op := Op.call { callee := Callee.value (Operand.func 22), args := #[Operand.tmp 51], argTypes := #[3] }) (ty := 9) (g := (some (14, true))) (f := 22) (args := #[.int .i64 n]) (w1 := w151) h162 (by kernel_rfl) (by kernel_rfl) (by kernel_rfl) (g1 50 (rfl : true = true)) (by kernel_rfl) (c22 n w151 (h2.below hB153.bel)) ?_
    rintro _ w165 ⟨rfl, hb166⟩
    have hB167 := hB153.call hb166
    refine ⟨_, rfl, trivial, fun q163 h164 => ?_⟩
    clear h162 hB153 hb166
    refine eG 17 53 (.move (.tmp 5)) 35 (14, true) (.slice (some ⟨b21, 0, none⟩) 3 3) (g1 50 (rfl : true = true)) h164 fun q168 h169 => ?_
    clear h164
    refine eG 18 54 (.move (.tmp 0)) 3 (14, true) (.int .i64 n) (g1 50 (rfl : true = true)) h169 fun q170 h171 => ?_
    clear h169
    refine stC (i := 19) (d := 55) (op := Op.call { callee := Callee.value (Operand.func 20), args := #[Operand.tmp 53, Operand.tmp 54], argTypes := #[35, 3] }) (ty := 9) (g := (some (14, true))) (f := 20) (args := #[.slice (some ⟨b21, 0, none⟩) 3 3, .int .i64 n]) (w1 := w165) h171 (by kernel_rfl) (by kernel_rfl) (by kernel_rfl) (g1 50 (rfl : true = true)) (by kernel_rfl) (c20 prioL (some ⟨b21, 0, none⟩) 3 n w165 (show Rd _ _ (strC prioL) from Rd.of_blk (hB167.at 0 rfl))) ?_
    rintro _ w174 ⟨rfl, hb175⟩
    have hB176 := hB167.call hb175
    refine ⟨_, rfl, trivial, fun q172 h173 => ?_⟩
    clear h171 hB167 hb175
    refine eG 20 56 (.binOp .eql 9 (.tmp 52) (.tmp 55) 9) 4 (14, true) (.bool ((nameB prioL n).toList == (nameB prioL n).toList)) (g1 50 (rfl : true = true)) h173 fun q177 h178 => ?_
    clear h173
    have h179 := h178.keep [(56, .bool true), (55, .string (nameB prioL n)), (54, .int .i64 n), (53, .slice (some ⟨b21, 0, none⟩) 3 3), (52, .string (nameB prioL n)), (51, .int .i64 n), (50, .bool true), (49, .bool true), (48, .bool true), (47, .string (nameB operL n)), (46, .int .i64 n), (45, .slice (some ⟨b13, 0, none⟩) 5 5), (44, .string (nameB operL n)), (43, .int .i64 n), (42, .bool true), (41, .bool true), (40, .string (nameB kindL n)), (39, .int .i64 n), (38, .slice (some ⟨b5, 0, none⟩) 5 5), (37, .string (nameB kindL n)), (36, .int .i64 n), (11, .bool (decide ((((k : Nat) : Int) - 1) ≤ (5 : Int)))), (10, .int .i64 (((k : Nat) : Int) - 1)), (0, .int .i64 n), (3, .slice (some ⟨b5, 0, none⟩) 5 5), (4, .slice (some ⟨b13, 0, none⟩) 5 5), (5, .slice (some ⟨b21, 0, none⟩) 3 3), (6, .int .i64 (((k : Nat) : Int) - 1))] ⟨look_bool rfl (same_word _), rfl, rfl, rfl, rfl, rfl, rfl, rfl, rfl, rfl, rfl, rfl, rfl, rfl, rfl, rfl, rfl, rfl, rfl, rfl, rfl, rfl, rfl, rfl, rfl, rfl, rfl, rfl, trivial⟩
    clear h178
    refine eE 21 57 (.pick (.tmp 50) (.tmp 56) (.const (.bool false))) 4 (.bool true) h179 fun q180 h181 => ?_
    clear h179
    refine eE 22 58 (.move (.tmp 57)) 4 (.bool true) h181 fun q182 h183 => ?_
    clear h181
    refine stC (i := 23) (d := 59) (op := Op.call { callee := Callee.value (Operand.func 12), args := #[], argTypes := #[] }) (ty := 4) (g := (some (22, true))) (f := 12) (args := #[]) (w1 := w174) h183 (by kernel_rfl) (by kernel_rfl) (by kernel_rfl) (g1 58 (rfl : true = true)) (by kernel_rfl) (c12 w174) ?_
    rintro _ w186 ⟨rfl, hb187⟩
    have hB188 := hB176.call hb187
    refine ⟨_, rfl, trivial, fun q184 h185 => ?_⟩
    clear h183 hB176 hb187
    refine eE 24 60 (.pick (.tmp 58) (.tmp 59) (.const (.bool false))) 4 (.bool true) h185 fun q189 h190 => ?_
    clear h185
    refine eE 25 2 (.assign (.tmp 60)) 4 (.bool true) h190 fun q191 h192 => ?_
    clear h190
    refine wpO_end ?_
    have h193 := h192.keep [(2, .bool true)] ⟨rfl, trivial⟩
    clear h192
    refine then_n ?_
    refine c_ret (by kernel_rfl) ?_
    refine ret1 (t := 2) (v := .bool true) h193 (by kernel_rfl) (by kernel_rfl) ?_
    exact ⟨ret_eq (rfl), hB188.bel⟩

end Go.Proofs.YtljegdokbifoiaaDoor.Af
