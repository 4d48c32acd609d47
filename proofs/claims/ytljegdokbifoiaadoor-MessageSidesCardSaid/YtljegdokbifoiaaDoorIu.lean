/- The check digit of a security's identifier. Short strings of letters and digits. -/
import Derived.Test.YtljegdokbifoiaaDoorIp
import Derived.Test.YtljegdokbifoiaaDoorBd
namespace Go.Proofs.YtljegdokbifoiaaDoor.Af
open Go.RowKit
theorem dec_size (v : Nat) (h : v < 100) : (⟨(Lib.decDigits v).toArray⟩ : ByteArray).size ≤ 2 := by
  show (Lib.decDigits v).toArray.size ≤ 2
  rw [List.size_toArray]
  rcases Nat.lt_or_ge v 10 with h1 | h1
  · rw [decDigits_one v h1]; simp
  · rw [decDigits_two v h1 h]; simp
theorem isb_next {B b k : Nat} {l : List UInt8} {c : UInt8} {bs : List Value} {w : World} (hst : expL (l.take (k + 1)) = expL (l.take k) ++ expC c) (hb : Lib.byteCells (expC c) = bs)
    (h : Lib.IsBuilder 138 5 B b (Lib.byteCells (expL (l.take k)) ++ bs) w) : Lib.IsBuilder 138 5 B b (Lib.byteCells (expL (l.take (k + 1)))) w := by
  rw [hst]
  unfold Lib.byteCells at hb h ⊢
  rw [List.map_append, hb]
  exact h

set_option maxHeartbeats 4000000 in
set_option maxRecDepth 20000 in
theorem c100 (s : ByteArray) (w : World) (hn : s.size ≤ 1000) (hC : ∀ c ∈ s.data.toList, okC c = true) : Calls Tryd.prog 100 #[.string s] w (fun e w' => e = .returned (.string ⟨(expL s.data.toList).toArray⟩) ∧ Below w.heap.size w w') := by
  refine enter Tryd.func100 (by kernel_rfl) ?_ (by kernel_rfl)
  intro q0 h0
  replace h0 := h0.conv (l' := [(0, .string s)]) rfl
  have hB := Bx.refl w
  refine c_seq (by kernel_rfl) ?_
  refine reg_plain [(0, false)] (by kernel_rfl) (by kernel_rfl) ?_
  refine eE 0 2 (.assign (.const (.string { data := #[] }))) 9 (.string (⟨#[]⟩ : ByteArray)) h0 fun q1 h2 => ?_
  clear h0
  refine wpO_end ?_
  refine then_n ?_
  refine c_seq (by kernel_rfl) ?_
  refine reg_plain [(0, false)] (by kernel_rfl) (by kernel_rfl) ?_
  refine stA (i := 0) (d := 3) (op := Op.alloc 138) (ty := 0) (g := none) (mk := fun b => .pointer (some ⟨b, 0, none⟩)) (o := .cells #[.pointer none, .slice none 0 0] 138 (0, 0)) h2 (by kernel_rfl) (by kernel_rfl) (by kernel_rfl) gok_none (fun _ => by kernel_rfl) hB (fun _ _ hq => trivial) (fun b5 w6 hB7 hN q3 h4 => ?_)
  clear h2 hB hN
  have hi8 := isB_new (hB7.at 0 rfl) (hB7.ge 0 _ rfl)
  have hB9 := Bx.step0 (Bx.refl w) hB7.bel
  clear hB7
  refine wpO_end ?_
  refine then_n ?_
  refine c_seq (by kernel_rfl) ?_
  refine c_seq (by kernel_rfl) ?_
  refine reg_plain [(0, false), (1, false), (2, false)] (by kernel_rfl) (by kernel_rfl) ?_
  refine eE 0 5 (.move (.tmp 0)) 9 (.string s) h4 fun q10 h11 => ?_
  clear h4
  refine eE 1 6 (.call { callee := .builtin .len, args := #[.tmp 5], argTypes := #[9] }) 3 (.int .i64 ((s.size : Nat) : Int)) h11 fun q12 h13 => ?_
  clear h11
  refine eE 2 7 (.move (.const (.int .i64 0))) 3 (.int .i64 0) h13 fun q14 h15 => ?_
  clear h13
  refine wpO_end ?_
  have h16 := h15.keep [(7, .int .i64 0), (6, .int .i64 ((s.size : Nat) : Int)), (3, .pointer (some ⟨b5, 0, none⟩)), (2, .string (⟨#[]⟩ : ByteArray)), (0, .string s)] ⟨rfl, rfl, rfl, rfl, rfl, trivial⟩
  clear h15
  refine then_n ?_
  refine c_block 0 (by kernel_rfl) ?_
  refine c_loop (by kernel_rfl) (fun qa qw => ∃ k : Nat, (k ≤ s.size) ∧ Fr 28 [(3, .pointer (some ⟨b5, 0, none⟩)), (6, .int .i64 ((s.size : Nat) : Int)), (7, .int .i64 ((k : Nat) : Int)), (0, .string s)] qa ∧ Bx w [] qw ∧ (Lib.IsBuilder 138 5 w.heap.size b5 (Lib.byteCells (expL (s.data.toList.take k))) qw)) (fun qa _ => (((s.size : Int)) - intAt qa 7).toNat) ⟨0, Nat.zero_le _, h16.keep _ ⟨rfl, rfl, rfl, rfl, trivial⟩, hB9, by rw [List.take_zero]; exact hi8⟩ ?_
  rintro q17 w18 ⟨k, hk21, h19, hB20, hx23⟩
  have hm22 := h19.int (k := 7) (kd := .i64) (z := ((k : Nat) : Int)) rfl
  clear h16 hB9
  refine c_seq (by kernel_rfl) ?_
  refine reg_plain [(0, false)] (by kernel_rfl) (by kernel_rfl) ?_
  refine eE 0 8 (.binOp .lss 3 (.tmp 7) (.tmp 6) 3) 4 (.bool (decide (((k : Nat) : Int) < ((s.size : Nat) : Int)))) h19 fun q24 h25 => ?_
  clear h19
  refine wpO_end ?_
  refine then_n ?_
  refine c_seq (by kernel_rfl) ?_
  refine c_cond (t := 8) (b := decide (((k : Nat) : Int) < ((s.size : Nat) : Int))) h25 (by kernel_rfl) (by kernel_rfl) (fun hc26 => ?_) (fun hc26 => ?_)
  ·
    have hp27 : (((k : Nat) : Int) < ((s.size : Nat) : Int)) := of_decide_eq_true hc26
    have hlt : (k : Int) < (s.size : Int) := by omega
    have hg := getL hlt
    have hok := hC _ (List.mem_of_getElem? hg)
    have hle := expL_len (s.data.toList.take k)
    rw [List.length_take] at hle
    have hst := expL_take _ _ _ hg
    refine c_skip (by kernel_rfl) ?_
    refine then_n ?_
    refine c_seq (by kernel_rfl) ?_
    refine c_block 1 (by kernel_rfl) ?_
    refine c_seq (by kernel_rfl) ?_
    refine reg_plain [(0, false), (1, false)] (by kernel_rfl) (by kernel_rfl) ?_
    refine eE 0 9 (.move (.tmp 7)) 3 (.int .i64 ((k : Nat) : Int)) h25 fun q28 h29 => ?_
    clear h25
    refine eE 1 4 (.assign (.tmp 9)) 3 (.int .i64 ((k : Nat) : Int)) h29 fun q30 h31 => ?_
    clear h29
    refine wpO_end ?_
    refine then_n ?_
    refine c_seq (by kernel_rfl) ?_
    refine reg_plain [(0, false), (1, false), (2, false), (3, false)] (by kernel_rfl) (by kernel_rfl) ?_
    refine eE 0 10 (.move (.tmp 0)) 9 (.string s) h31 fun q32 h33 => ?_
    clear h31
    refine eE 1 11 (.move (.tmp 4)) 3 (.int .i64 ((k : Nat) : Int)) h33 fun q34 h35 => ?_
    clear h33
    refine eE 2 12 (.index 9 (.tmp 10) (.tmp 11)) 5 (.int .u8 (((chAt s k).toNat : Nat) : Int)) h35 (hr := r_indexS (kd := .i64) (i := k) (b := (chAt s k)) (by kernel_rfl) (by kernel_rfl) (getS hlt) (by kernel_rfl)) fun q36 h37 => ?_
    clear h35
    refine stC (i := 3) (d := 13) (op := Op.call { callee := Callee.value (Operand.func 88), args := #[Operand.tmp 12], argTypes := #[5] }) (ty := 4) (g := none) (f := 88) (args := #[.int .u8 (((chAt s k).toNat : Nat) : Int)]) (w1 := w18) h37 (by kernel_rfl) (by kernel_rfl) (by kernel_rfl) gok_none (by kernel_rfl) (c88 (((chAt s k).toNat : Nat) : Int) w18) ?_
    rintro _ w40 ⟨rfl, hb41⟩
    have hi43 := isB_below hx23 hb41
    have hB42 := hB20.call hb41
    refine ⟨_, rfl, trivial, fun q38 h39 => ?_⟩
    clear h37 hB20 hb41
    refine wpO_end ?_
    refine then_n ?_
    refine c_cond (t := 13) (b := digitB (((chAt s k).toNat : Nat) : Int)) h39 (by kernel_rfl) (by kernel_rfl) (fun hc44 => ?_) (fun hc44 => ?_)
    ·
      have hcc := expC_digit _ hc44
      refine reg_plain [(0, false), (1, false), (2, false), (3, false)] (by kernel_rfl) (by kernel_rfl) ?_
      refine eE 0 14 (.move (.tmp 0)) 9 (.string s) h39 fun q45 h46 => ?_
      clear h39
      refine eE 1 15 (.move (.tmp 4)) 3 (.int .i64 ((k : Nat) : Int)) h46 fun q47 h48 => ?_
      clear h46
      refine eE 2 16 (.index 9 (.tmp 14) (.tmp 15)) 5 (.int .u8 (((chAt s k).toNat : Nat) : Int)) h48 (hr := r_indexS (kd := .i64) (i := k) (b := (chAt s k)) (by kernel_rfl) (by kernel_rfl) (getS hlt) (by kernel_rfl)) fun q49 h50 => ?_
      clear h48
      refine stC (i := 3) (d := 17) (op := Op.call { callee := Callee.value (Operand.func 103), args := #[Operand.tmp 3, Operand.tmp 16], argTypes := #[138, 5] }) (ty := 140) (g := none) (f := 103) (args := #[.pointer (some ⟨b5, 0, none⟩), .int .u8 (((chAt s k).toNat : Nat) : Int)]) (w1 := w40) h50 (by kernel_rfl) (by kernel_rfl) (by kernel_rfl) gok_none (by kernel_rfl) (c103 w.heap.size b5 (Lib.byteCells (expL (s.data.toList.take k))) (((chAt s k).toNat : Nat) : Int) w40 hi43 (by rw [Lib.byteCells_length]; omega) hB42.bel.size) ?_
      rintro _ w53 ⟨rfl, hi56, hb54⟩
      have hB55 := Bx.step0 (Bx.refl w) (hB42.bel.trans hb54)
      refine ⟨_, rfl, trivial, fun q51 h52 => ?_⟩
      clear h50 hB42 hb54
      refine wpO_end ?_
      have h57 := h52.keep [(16, .int .u8 (((chAt s k).toNat : Nat) : Int)), (15, .int .i64 ((k : Nat) : Int)), (14, .string s), (13, .bool (digitB (((chAt s k).toNat : Nat) : Int))), (12, .int .u8 (((chAt s k).toNat : Nat) : Int)), (11, .int .i64 ((k : Nat) : Int)), (10, .string s), (4, .int .i64 ((k : Nat) : Int)), (9, .int .i64 ((k : Nat) : Int)), (8, .bool (decide (((k : Nat) : Int) < ((s.size : Nat) : Int)))), (3, .pointer (some ⟨b5, 0, none⟩)), (6, .int .i64 ((s.size : Nat) : Int)), (7, .int .i64 ((k : Nat) : Int)), (0, .string s)] ⟨rfl, rfl, rfl, rfl, rfl, rfl, rfl, rfl, rfl, rfl, rfl, rfl, rfl, rfl, trivial⟩
      clear h52
      refine inB_n ?_
      refine then_n ?_
      refine reg_plain [(0, false), (1, false)] (by kernel_rfl) (by kernel_rfl) ?_
      refine eE 0 26 (.binOp .add 3 (.tmp 7) (.const (.int .i64 1)) 3) 3 (.int .i64 (IntKind.i64.wrap (((k : Nat) : Int) + 1))) h57 fun q58 h59 => ?_
      clear h57
      refine eE 1 7 (.move (.tmp 26)) 3 (.int .i64 (IntKind.i64.wrap (((k : Nat) : Int) + 1))) h59 fun q60 h61 => ?_
      clear h59
      refine wpO_end ?_
      have h62 := h61.keep [(7, .int .i64 (IntKind.i64.wrap (((k : Nat) : Int) + 1))), (26, .int .i64 (IntKind.i64.wrap (((k : Nat) : Int) + 1))), (16, .int .u8 (((chAt s k).toNat : Nat) : Int)), (15, .int .i64 ((k : Nat) : Int)), (14, .string s), (13, .bool (digitB (((chAt s k).toNat : Nat) : Int))), (12, .int .u8 (((chAt s k).toNat : Nat) : Int)), (11, .int .i64 ((k : Nat) : Int)), (10, .string s), (4, .int .i64 ((k : Nat) : Int)), (9, .int .i64 ((k : Nat) : Int)), (8, .bool (decide (((k : Nat) : Int) < ((s.size : Nat) : Int)))), (3, .pointer (some ⟨b5, 0, none⟩)), (6, .int .i64 ((s.size : Nat) : Int)), (0, .string s)] ⟨rfl, rfl, rfl, rfl, rfl, rfl, rfl, rfl, rfl, rfl, rfl, rfl, rfl, rfl, rfl, trivial⟩
      clear h61
      have h63 := h62.keep [(3, .pointer (some ⟨b5, 0, none⟩)), (6, .int .i64 ((s.size : Nat) : Int)), (7, .int .i64 (((k + 1) : Nat) : Int)), (0, .string s)] ⟨rfl, rfl, look_int rfl (wrap_succ (by have := hn; omega)), rfl, trivial⟩
      have hm64 := h63.int (k := 7) (kd := .i64) (z := (((k + 1) : Nat) : Int)) rfl
      refine then_n ⟨⟨k + 1, by omega, h63, hB55, isb_next hst (by rw [hcc]; rfl) hi56⟩, ?_⟩
      show (((s.size : Int)) - intAt _ 7).toNat < (((s.size : Int)) - intAt _ 7).toNat
      rw [hm22, hm64]; omega
    ·
      have hsm := expC_letter _ hok hc44
      refine reg_plain [(0, false), (1, false), (2, false), (3, false), (4, false), (5, false), (6, false), (7, false)] (by kernel_rfl) (by kernel_rfl) ?_
      refine eE 0 18 (.move (.tmp 0)) 9 (.string s) h39 fun q65 h66 => ?_
      clear h39
      refine eE 1 19 (.move (.tmp 4)) 3 (.int .i64 ((k : Nat) : Int)) h66 fun q67 h68 => ?_
      clear h66
      refine eE 2 20 (.index 9 (.tmp 18) (.tmp 19)) 5 (.int .u8 (((chAt s k).toNat : Nat) : Int)) h68 (hr := r_indexS (kd := .i64) (i := k) (b := (chAt s k)) (by kernel_rfl) (by kernel_rfl) (getS hlt) (by kernel_rfl)) fun q69 h70 => ?_
      clear h68
      refine eE 3 21 (.binOp .sub 5 (.tmp 20) (.const (.int .u8 65)) 5) 5 (.int .u8 (IntKind.u8.wrap ((((chAt s k).toNat : Nat) : Int) - 65))) h70 fun q71 h72 => ?_
      clear h70
      refine eE 4 22 (.convert 5 3 (.tmp 21)) 3 (.int .i64 (IntKind.i64.wrap (IntKind.u8.wrap ((((chAt s k).toNat : Nat) : Int) - 65)))) h72 fun q73 h74 => ?_
      clear h72
      refine eE 5 23 (.binOp .add 3 (.tmp 22) (.const (.int .i64 10)) 3) 3 (.int .i64 (IntKind.i64.wrap ((IntKind.i64.wrap (IntKind.u8.wrap ((((chAt s k).toNat : Nat) : Int) - 65))) + 10))) h74 fun q75 h76 => ?_
      clear h74
      have h77 := h76.keep [(23, .int .i64 (((chAt s k).toNat - 55 : Nat) : Int)), (22, .int .i64 (IntKind.i64.wrap (IntKind.u8.wrap ((((chAt s k).toNat : Nat) : Int) - 65)))), (21, .int .u8 (IntKind.u8.wrap ((((chAt s k).toNat : Nat) : Int) - 65))), (20, .int .u8 (((chAt s k).toNat : Nat) : Int)), (19, .int .i64 ((k : Nat) : Int)), (18, .string s), (13, .bool (digitB (((chAt s k).toNat : Nat) : Int))), (12, .int .u8 (((chAt s k).toNat : Nat) : Int)), (11, .int .i64 ((k : Nat) : Int)), (10, .string s), (4, .int .i64 ((k : Nat) : Int)), (9, .int .i64 ((k : Nat) : Int)), (8, .bool (decide (((k : Nat) : Int) < ((s.size : Nat) : Int)))), (3, .pointer (some ⟨b5, 0, none⟩)), (6, .int .i64 ((s.size : Nat) : Int)), (7, .int .i64 ((k : Nat) : Int)), (0, .string s)] ⟨look_int rfl (up_val _ hsm.2.2.1 hsm.2.2.2), rfl, rfl, rfl, rfl, rfl, rfl, rfl, rfl, rfl, rfl, rfl, rfl, rfl, rfl, rfl, rfl, trivial⟩
      clear h76
      refine stC (i := 6) (d := 24) (op := Op.call { callee := Callee.value (Operand.func 101), args := #[Operand.tmp 23], argTypes := #[3] }) (ty := 9) (g := none) (f := 101) (args := #[.int .i64 (((chAt s k).toNat - 55 : Nat) : Int)]) (w1 := w40) h77 (by kernel_rfl) (by kernel_rfl) (by kernel_rfl) gok_none (by kernel_rfl) (c101 ((chAt s k).toNat - 55) hsm.2.1 w40) ?_
      rintro _ w80 ⟨rfl, hb81⟩
      have hi83 := isB_below hi43 hb81
      have hB82 := hB42.call hb81
      refine ⟨_, rfl, trivial, fun q78 h79 => ?_⟩
      clear h77 hB42 hb81
      refine stC (i := 7) (d := 25) (op := Op.call { callee := Callee.value (Operand.func 104), args := #[Operand.tmp 3, Operand.tmp 24], argTypes := #[138, 9] }) (ty := 142) (g := none) (f := 104) (args := #[.pointer (some ⟨b5, 0, none⟩), .string (⟨(Lib.decDigits ((chAt s k).toNat - 55)).toArray⟩ : ByteArray)]) (w1 := w80) h79 (by kernel_rfl) (by kernel_rfl) (by kernel_rfl) gok_none (by kernel_rfl) (c104 w.heap.size b5 (Lib.byteCells (expL (s.data.toList.take k))) (⟨(Lib.decDigits ((chAt s k).toNat - 55)).toArray⟩ : ByteArray) w80 hi83 (by rw [Lib.byteCells_length]; have := dec_size ((chAt s k).toNat - 55) hsm.2.1; omega) hB82.bel.size) ?_
      rintro _ w86 ⟨rfl, hi89, hb87⟩
      have hB88 := Bx.step0 (Bx.refl w) (hB82.bel.trans hb87)
      refine ⟨_, rfl, trivial, fun q84 h85 => ?_⟩
      clear h79 hB82 hb87
      refine wpO_end ?_
      have h90 := h85.keep [(24, .string (⟨(Lib.decDigits ((chAt s k).toNat - 55)).toArray⟩ : ByteArray)), (23, .int .i64 (((chAt s k).toNat - 55 : Nat) : Int)), (22, .int .i64 (IntKind.i64.wrap (IntKind.u8.wrap ((((chAt s k).toNat : Nat) : Int) - 65)))), (21, .int .u8 (IntKind.u8.wrap ((((chAt s k).toNat : Nat) : Int) - 65))), (20, .int .u8 (((chAt s k).toNat : Nat) : Int)), (19, .int .i64 ((k : Nat) : Int)), (18, .string s), (13, .bool (digitB (((chAt s k).toNat : Nat) : Int))), (12, .int .u8 (((chAt s k).toNat : Nat) : Int)), (11, .int .i64 ((k : Nat) : Int)), (10, .string s), (4, .int .i64 ((k : Nat) : Int)), (9, .int .i64 ((k : Nat) : Int)), (8, .bool (decide (((k : Nat) : Int) < ((s.size : Nat) : Int)))), (3, .pointer (some ⟨b5, 0, none⟩)), (6, .int .i64 ((s.size : Nat) : Int)), (7, .int .i64 ((k : Nat) : Int)), (0, .string s)] ⟨rfl, rfl, rfl, rfl, rfl, rfl, rfl, rfl, rfl, rfl, rfl, rfl, rfl, rfl, rfl, rfl, rfl, rfl, trivial⟩
      clear h85
      refine inB_n ?_
      refine then_n ?_
      refine reg_plain [(0, false), (1, false)] (by kernel_rfl) (by kernel_rfl) ?_
      refine eE 0 26 (.binOp .add 3 (.tmp 7) (.const (.int .i64 1)) 3) 3 (.int .i64 (IntKind.i64.wrap (((k : Nat) : Int) + 1))) h90 fun q91 h92 => ?_
      clear h90
      refine eE 1 7 (.move (.tmp 26)) 3 (.int .i64 (IntKind.i64.wrap (((k : Nat) : Int) + 1))) h92 fun q93 h94 => ?_
      clear h92
      refine wpO_end ?_
      have h95 := h94.keep [(7, .int .i64 (IntKind.i64.wrap (((k : Nat) : Int) + 1))), (26, .int .i64 (IntKind.i64.wrap (((k : Nat) : Int) + 1))), (24, .string (⟨(Lib.decDigits ((chAt s k).toNat - 55)).toArray⟩ : ByteArray)), (23, .int .i64 (((chAt s k).toNat - 55 : Nat) : Int)), (22, .int .i64 (IntKind.i64.wrap (IntKind.u8.wrap ((((chAt s k).toNat : Nat) : Int) - 65)))), (21, .int .u8 (IntKind.u8.wrap ((((chAt s k).toNat : Nat) : Int) - 65))), (20, .int .u8 (((chAt s k).toNat : Nat) : Int)), (19, .int .i64 ((k : Nat) : Int)), (18, .string s), (13, .bool (digitB (((chAt s k).toNat : Nat) : Int))), (12, .int .u8 (((chAt s k).toNat : Nat) : Int)), (11, .int .i64 ((k : Nat) : Int)), (10, .string s), (4, .int .i64 ((k : Nat) : Int)), (9, .int .i64 ((k : Nat) : Int)), (8, .bool (decide (((k : Nat) : Int) < ((s.size : Nat) : Int)))), (3, .pointer (some ⟨b5, 0, none⟩)), (6, .int .i64 ((s.size : Nat) : Int)), (0, .string s)] ⟨rfl, rfl, rfl, rfl, rfl, rfl, rfl, rfl, rfl, rfl, rfl, rfl, rfl, rfl, rfl, rfl, rfl, rfl, rfl, trivial⟩
      clear h94
      have h96 := h95.keep [(3, .pointer (some ⟨b5, 0, none⟩)), (6, .int .i64 ((s.size : Nat) : Int)), (7, .int .i64 (((k + 1) : Nat) : Int)), (0, .string s)] ⟨rfl, rfl, look_int rfl (wrap_succ (by have := hn; omega)), rfl, trivial⟩
      have hm97 := h96.int (k := 7) (kd := .i64) (z := (((k + 1) : Nat) : Int)) rfl
      refine then_n ⟨⟨k + 1, by omega, h96, hB88, isb_next hst (by rw [← hsm.1]; rfl) hi89⟩, ?_⟩
      show (((s.size : Int)) - intAt _ 7).toNat < (((s.size : Int)) - intAt _ 7).toNat
      rw [hm22, hm97]; omega
  ·
    have hp98 : ¬ (((k : Nat) : Int) < ((s.size : Nat) : Int)) := of_decide_eq_false hc26
    have hk_end : s.size ≤ k := by omega
    refine c_exit 0 (by kernel_rfl) ?_
    refine then_e (then_e (inB_hit ?_))
    refine then_n ?_
    refine c_seq (by kernel_rfl) ?_
    refine reg_plain [(0, false), (1, false)] (by kernel_rfl) (by kernel_rfl) ?_
    refine stC (i := 0) (d := 27) (op := Op.call { callee := Callee.value (Operand.func 105), args := #[Operand.tmp 3], argTypes := #[138] }) (ty := 9) (g := none) (f := 105) (args := #[.pointer (some ⟨b5, 0, none⟩)]) (w1 := w18) h25 (by kernel_rfl) (by kernel_rfl) (by kernel_rfl) gok_none (by kernel_rfl) (Tryd.Builder_String_any w.heap.size b5 (expL s.data.toList) w18 (by have := hx23; rwa [List.take_of_length_le (by have := hk_end; have e : s.data.toList.length = s.size := Array.length_toList; omega)] at this) hB20.bel.size) ?_
    rintro _ w101 ⟨rfl, hb102⟩
    have hB103 := Bx.step0 (Bx.refl w) (hB20.bel.trans hb102)
    refine ⟨_, rfl, trivial, fun q99 h100 => ?_⟩
    clear h25 hB20 hb102
    refine eE 1 2 (.assign (.tmp 27)) 9 (.string (⟨(expL s.data.toList).toArray⟩ : ByteArray)) h100 fun q104 h105 => ?_
    clear h100
    refine wpO_end ?_
    have h106 := h105.keep [(2, .string (⟨(expL s.data.toList).toArray⟩ : ByteArray))] ⟨rfl, trivial⟩
    clear h105
    refine then_n ?_
    refine c_ret (by kernel_rfl) ?_
    refine ret1 (t := 2) (v := .string (⟨(expL s.data.toList).toArray⟩ : ByteArray)) h106 (by kernel_rfl) (by kernel_rfl) ?_
    exact ⟨rfl, hB103.bel⟩

theorem str_at {l : List UInt8} {j : Nat} {b : UInt8} (h : l[j]? = some b) : (⟨l.toArray⟩ : ByteArray)[j]? = some b := by
  obtain ⟨hj, he⟩ := List.getElem?_eq_some_iff.1 h
  have h' : j < (⟨l.toArray⟩ : ByteArray).size := by show j < l.toArray.size; simpa using hj
  rw [getElem?_pos _ j h']
  show some (l.toArray[j]) = some b
  simp [he]

set_option maxHeartbeats 4000000 in
set_option maxRecDepth 20000 in
theorem c89 (s : ByteArray) (w : World) (hn : s.size ≤ 1000) (hC : ∀ c ∈ s.data.toList, okC c = true) : Calls Tryd.prog 89 #[.string s] w (fun e w' => e = .returned (.string ⟨#[UInt8.ofNat (48 + luhnD s.data.toList)]⟩) ∧ Below w.heap.size w w') := by
  have hlen := digs_len s.data.toList hC
  have hxl := expL_len s.data.toList
  rw [show s.data.toList.length = s.size from Array.length_toList] at hxl
  refine enter Tryd.func89 (by kernel_rfl) ?_ (by kernel_rfl)
  intro q0 h0
  replace h0 := h0.conv (l' := [(0, .string s)]) rfl
  have hB := Bx.refl w
  refine c_seq (by kernel_rfl) ?_
  refine reg_plain [(0, false)] (by kernel_rfl) (by kernel_rfl) ?_
  refine eE 0 2 (.assign (.const (.string { data := #[] }))) 9 (.string (⟨#[]⟩ : ByteArray)) h0 fun q1 h2 => ?_
  clear h0
  refine wpO_end ?_
  refine then_n ?_
  refine c_seq (by kernel_rfl) ?_
  refine reg_plain [(0, false), (1, false), (2, false)] (by kernel_rfl) (by kernel_rfl) ?_
  refine eE 0 7 (.move (.tmp 0)) 9 (.string s) h2 fun q3 h4 => ?_
  clear h2
  refine stC (i := 1) (d := 8) (op := Op.call { callee := Callee.value (Operand.func 100), args := #[Operand.tmp 7], argTypes := #[9] }) (ty := 9) (g := none) (f := 100) (args := #[.string s]) (w1 := w) h4 (by kernel_rfl) (by kernel_rfl) (by kernel_rfl) gok_none (by kernel_rfl) (c100 s w hn hC) ?_
  rintro _ w7 ⟨rfl, hb8⟩
  have hB9 := hB.call hb8
  refine ⟨_, rfl, trivial, fun q5 h6 => ?_⟩
  clear h4 hB hb8
  refine eE 2 3 (.assign (.tmp 8)) 9 (.string (⟨(expL s.data.toList).toArray⟩ : ByteArray)) h6 fun q10 h11 => ?_
  clear h6
  refine wpO_end ?_
  have h12 := h11.keep [(3, .string (⟨(expL s.data.toList).toArray⟩ : ByteArray)), (2, .string (⟨#[]⟩ : ByteArray))] ⟨rfl, rfl, trivial⟩
  clear h11
  refine then_n ?_
  refine c_seq (by kernel_rfl) ?_
  refine reg_plain [(0, false)] (by kernel_rfl) (by kernel_rfl) ?_
  refine eE 0 4 (.assign (.const (.int .i64 0))) 3 (.int .i64 0) h12 fun q13 h14 => ?_
  clear h12
  refine wpO_end ?_
  refine then_n ?_
  refine c_seq (by kernel_rfl) ?_
  refine c_seq (by kernel_rfl) ?_
  refine reg_plain [(0, false), (1, false), (2, false)] (by kernel_rfl) (by kernel_rfl) ?_
  refine eE 0 9 (.move (.tmp 3)) 9 (.string (⟨(expL s.data.toList).toArray⟩ : ByteArray)) h14 fun q15 h16 => ?_
  clear h14
  refine eE 1 10 (.call { callee := .builtin .len, args := #[.tmp 9], argTypes := #[9] }) 3 (.int .i64 (((⟨(expL s.data.toList).toArray⟩ : ByteArray).size : Nat) : Int)) h16 fun q17 h18 => ?_
  clear h16
  have h19 := h18.keep [(10, .int .i64 (((digs s.data.toList).length : Nat) : Int)), (9, .string (⟨(expL s.data.toList).toArray⟩ : ByteArray)), (4, .int .i64 0), (3, .string (⟨(expL s.data.toList).toArray⟩ : ByteArray)), (2, .string (⟨#[]⟩ : ByteArray))] ⟨look_int rfl (by rw [hlen]; rfl), rfl, rfl, rfl, rfl, trivial⟩
  clear h18
  refine eE 2 11 (.move (.const (.int .i64 0))) 3 (.int .i64 0) h19 fun q20 h21 => ?_
  clear h19
  refine wpO_end ?_
  have h22 := h21.keep [(11, .int .i64 0), (10, .int .i64 (((digs s.data.toList).length : Nat) : Int)), (4, .int .i64 0), (3, .string (⟨(expL s.data.toList).toArray⟩ : ByteArray)), (2, .string (⟨#[]⟩ : ByteArray))] ⟨rfl, rfl, rfl, rfl, rfl, trivial⟩
  clear h21
  refine then_n ?_
  refine c_block 0 (by kernel_rfl) ?_
  refine c_loop (by kernel_rfl) (fun qa qw => ∃ k : Nat, (k ≤ (digs s.data.toList).length) ∧ Fr 41 [(3, .string (⟨(expL s.data.toList).toArray⟩ : ByteArray)), (10, .int .i64 (((digs s.data.toList).length : Nat) : Int)), (11, .int .i64 ((k : Nat) : Int)), (4, .int .i64 ((lSum (digs s.data.toList) k : Nat) : Int))] qa ∧ Bx w [] qw) (fun qa _ => ((((digs s.data.toList).length : Int)) - intAt qa 11).toNat) ⟨0, Nat.zero_le _, h22.keep _ ⟨rfl, rfl, rfl, rfl, trivial⟩, hB9⟩ ?_
  rintro q23 w24 ⟨k, hk27, h25, hB26⟩
  have hm28 := h25.int (k := 11) (kd := .i64) (z := ((k : Nat) : Int)) rfl
  clear h22 hB9
  have hS := lSum_le (digs s.data.toList) (digs_lt _ hC) k
  refine c_seq (by kernel_rfl) ?_
  refine reg_plain [(0, false)] (by kernel_rfl) (by kernel_rfl) ?_
  refine eE 0 12 (.binOp .lss 3 (.tmp 11) (.tmp 10) 3) 4 (.bool (decide (((k : Nat) : Int) < (((digs s.data.toList).length : Nat) : Int)))) h25 fun q29 h30 => ?_
  clear h25
  refine wpO_end ?_
  refine then_n ?_
  refine c_seq (by kernel_rfl) ?_
  refine c_cond (t := 12) (b := decide (((k : Nat) : Int) < (((digs s.data.toList).length : Nat) : Int))) h30 (by kernel_rfl) (by kernel_rfl) (fun hc31 => ?_) (fun hc31 => ?_)
  ·
    have hp32 : (((k : Nat) : Int) < (((digs s.data.toList).length : Nat) : Int)) := of_decide_eq_true hc31
    have hlt : k < (digs s.data.toList).length := by omega
    obtain ⟨b, hb1, hd, hb2⟩ := exp_at s.data.toList hC ((digs s.data.toList).length - 1 - k) (by rw [← hlen]; omega)
    refine c_skip (by kernel_rfl) ?_
    refine then_n ?_
    refine c_seq (by kernel_rfl) ?_
    refine c_block 1 (by kernel_rfl) ?_
    refine c_seq (by kernel_rfl) ?_
    refine reg_plain [(0, false), (1, false)] (by kernel_rfl) (by kernel_rfl) ?_
    refine eE 0 13 (.move (.tmp 11)) 3 (.int .i64 ((k : Nat) : Int)) h30 fun q33 h34 => ?_
    clear h30
    refine eE 1 5 (.assign (.tmp 13)) 3 (.int .i64 ((k : Nat) : Int)) h34 fun q35 h36 => ?_
    clear h34
    refine wpO_end ?_
    refine then_n ?_
    refine c_seq (by kernel_rfl) ?_
    refine reg_plain [(0, false), (1, false), (2, false), (3, false), (4, false), (5, false), (6, false), (7, false), (8, false), (9, false)] (by kernel_rfl) (by kernel_rfl) ?_
    refine eE 0 14 (.move (.tmp 3)) 9 (.string (⟨(expL s.data.toList).toArray⟩ : ByteArray)) h36 fun q37 h38 => ?_
    clear h36
    refine eE 1 15 (.move (.tmp 3)) 9 (.string (⟨(expL s.data.toList).toArray⟩ : ByteArray)) h38 fun q39 h40 => ?_
    clear h38
    refine eE 2 16 (.call { callee := .builtin .len, args := #[.tmp 15], argTypes := #[9] }) 3 (.int .i64 (((⟨(expL s.data.toList).toArray⟩ : ByteArray).size : Nat) : Int)) h40 fun q41 h42 => ?_
    clear h40
    have h43 := h42.keep [(16, .int .i64 (((digs s.data.toList).length : Nat) : Int)), (15, .string (⟨(expL s.data.toList).toArray⟩ : ByteArray)), (14, .string (⟨(expL s.data.toList).toArray⟩ : ByteArray)), (5, .int .i64 ((k : Nat) : Int)), (13, .int .i64 ((k : Nat) : Int)), (12, .bool (decide (((k : Nat) : Int) < (((digs s.data.toList).length : Nat) : Int)))), (3, .string (⟨(expL s.data.toList).toArray⟩ : ByteArray)), (10, .int .i64 (((digs s.data.toList).length : Nat) : Int)), (11, .int .i64 ((k : Nat) : Int)), (4, .int .i64 ((lSum (digs s.data.toList) k : Nat) : Int))] ⟨look_int rfl (by rw [hlen]; rfl), rfl, rfl, rfl, rfl, rfl, rfl, rfl, rfl, rfl, trivial⟩
    clear h42
    refine eE 3 17 (.binOp .sub 3 (.tmp 16) (.const (.int .i64 1)) 3) 3 (.int .i64 (IntKind.i64.wrap ((((digs s.data.toList).length : Nat) : Int) - 1))) h43 fun q44 h45 => ?_
    clear h43
    refine eE 4 18 (.move (.tmp 5)) 3 (.int .i64 ((k : Nat) : Int)) h45 fun q46 h47 => ?_
    clear h45
    refine eE 5 19 (.binOp .sub 3 (.tmp 17) (.tmp 18) 3) 3 (.int .i64 (IntKind.i64.wrap ((IntKind.i64.wrap ((((digs s.data.toList).length : Nat) : Int) - 1)) - ((k : Nat) : Int)))) h47 fun q48 h49 => ?_
    clear h47
    have h50 := h49.keep [(19, .int .i64 ((((digs s.data.toList).length - 1 - k) : Nat) : Int)), (18, .int .i64 ((k : Nat) : Int)), (17, .int .i64 (IntKind.i64.wrap ((((digs s.data.toList).length : Nat) : Int) - 1))), (16, .int .i64 (((digs s.data.toList).length : Nat) : Int)), (15, .string (⟨(expL s.data.toList).toArray⟩ : ByteArray)), (14, .string (⟨(expL s.data.toList).toArray⟩ : ByteArray)), (5, .int .i64 ((k : Nat) : Int)), (13, .int .i64 ((k : Nat) : Int)), (12, .bool (decide (((k : Nat) : Int) < (((digs s.data.toList).length : Nat) : Int)))), (3, .string (⟨(expL s.data.toList).toArray⟩ : ByteArray)), (10, .int .i64 (((digs s.data.toList).length : Nat) : Int)), (11, .int .i64 ((k : Nat) : Int)), (4, .int .i64 ((lSum (digs s.data.toList) k : Nat) : Int))] ⟨look_int rfl (by rw [wrap_i64 (z := (((digs s.data.toList).length : Nat) : Int) - 1) (by omega) (by omega), wrap_i64 (by omega) (by omega)]; omega), rfl, rfl, rfl, rfl, rfl, rfl, rfl, rfl, rfl, rfl, rfl, rfl, trivial⟩
    clear h49
    refine eE 6 20 (.index 9 (.tmp 14) (.tmp 19)) 5 (.int .u8 ((b.toNat : Nat) : Int)) h50 (hr := r_indexS (kd := .i64) (i := ((digs s.data.toList).length - 1 - k)) (b := b) (by kernel_rfl) (by kernel_rfl) (str_at hb1) (by kernel_rfl)) fun q51 h52 => ?_
    clear h50
    refine eE 7 21 (.binOp .sub 5 (.tmp 20) (.const (.int .u8 48)) 5) 5 (.int .u8 (IntKind.u8.wrap (((b.toNat : Nat) : Int) - 48))) h52 fun q53 h54 => ?_
    clear h52
    refine eE 8 22 (.convert 5 3 (.tmp 21)) 3 (.int .i64 (IntKind.i64.wrap (IntKind.u8.wrap (((b.toNat : Nat) : Int) - 48)))) h54 fun q55 h56 => ?_
    clear h54
    have h57 := h56.keep [(22, .int .i64 (((digs s.data.toList).getD ((digs s.data.toList).length - 1 - k) 0 : Nat) : Int)), (21, .int .u8 (IntKind.u8.wrap (((b.toNat : Nat) : Int) - 48))), (20, .int .u8 ((b.toNat : Nat) : Int)), (19, .int .i64 ((((digs s.data.toList).length - 1 - k) : Nat) : Int)), (18, .int .i64 ((k : Nat) : Int)), (17, .int .i64 (IntKind.i64.wrap ((((digs s.data.toList).length : Nat) : Int) - 1))), (16, .int .i64 (((digs s.data.toList).length : Nat) : Int)), (15, .string (⟨(expL s.data.toList).toArray⟩ : ByteArray)), (14, .string (⟨(expL s.data.toList).toArray⟩ : ByteArray)), (5, .int .i64 ((k : Nat) : Int)), (13, .int .i64 ((k : Nat) : Int)), (12, .bool (decide (((k : Nat) : Int) < (((digs s.data.toList).length : Nat) : Int)))), (3, .string (⟨(expL s.data.toList).toArray⟩ : ByteArray)), (10, .int .i64 (((digs s.data.toList).length : Nat) : Int)), (11, .int .i64 ((k : Nat) : Int)), (4, .int .i64 ((lSum (digs s.data.toList) k : Nat) : Int))] ⟨look_int rfl hb2, rfl, rfl, rfl, rfl, rfl, rfl, rfl, rfl, rfl, rfl, rfl, rfl, rfl, rfl, rfl, trivial⟩
    clear h56
    refine eE 9 6 (.assign (.tmp 22)) 3 (.int .i64 (((digs s.data.toList).getD ((digs s.data.toList).length - 1 - k) 0 : Nat) : Int)) h57 fun q58 h59 => ?_
    clear h57
    refine wpO_end ?_
    refine then_n ?_
    refine c_seq (by kernel_rfl) ?_
    refine c_seq (by kernel_rfl) ?_
    refine reg_plain [(0, false), (1, false), (2, false)] (by kernel_rfl) (by kernel_rfl) ?_
    refine eE 0 23 (.move (.tmp 5)) 3 (.int .i64 ((k : Nat) : Int)) h59 fun q60 h61 => ?_
    clear h59
    refine eE 1 24 (.binOp .rem 3 (.tmp 23) (.const (.int .i64 2)) 3) 3 (.int .i64 (Int.tmod ((k : Nat) : Int) (2 : Int))) h61 fun q62 h63 => ?_
    clear h61
    refine eE 2 25 (.binOp .eql 3 (.tmp 24) (.const (.int .i64 0)) 3) 4 (.bool (Int.tmod ((k : Nat) : Int) (2 : Int) == (0 : Int))) h63 fun q64 h65 => ?_
    clear h63
    refine wpO_end ?_
    refine then_n ?_
    refine c_cond (t := 25) (b := (Int.tmod ((k : Nat) : Int) (2 : Int) == (0 : Int))) h65 (by kernel_rfl) (by kernel_rfl) (fun hc66 => ?_) (fun hc66 => ?_)
    ·
      have hpar := hc66
      rw [par_eq] at hpar
      refine reg_plain [(0, false), (1, false), (2, false)] (by kernel_rfl) (by kernel_rfl) ?_
      refine eE 0 26 (.move (.tmp 6)) 3 (.int .i64 (((digs s.data.toList).getD ((digs s.data.toList).length - 1 - k) 0 : Nat) : Int)) h65 fun q67 h68 => ?_
      clear h65
      refine eE 1 27 (.binOp .mul 3 (.tmp 26) (.const (.int .i64 2)) 3) 3 (.int .i64 (IntKind.i64.wrap ((((digs s.data.toList).getD ((digs s.data.toList).length - 1 - k) 0 : Nat) : Int) * 2))) h68 fun q69 h70 => ?_
      clear h68
      refine eE 2 6 (.assign (.tmp 27)) 3 (.int .i64 (IntKind.i64.wrap ((((digs s.data.toList).getD ((digs s.data.toList).length - 1 - k) 0 : Nat) : Int) * 2))) h70 fun q71 h72 => ?_
      clear h70
      refine wpO_end ?_
      have h73 := h72.keep [(6, .int .i64 (IntKind.i64.wrap ((((digs s.data.toList).getD ((digs s.data.toList).length - 1 - k) 0 : Nat) : Int) * 2))), (27, .int .i64 (IntKind.i64.wrap ((((digs s.data.toList).getD ((digs s.data.toList).length - 1 - k) 0 : Nat) : Int) * 2))), (26, .int .i64 (((digs s.data.toList).getD ((digs s.data.toList).length - 1 - k) 0 : Nat) : Int)), (25, .bool (Int.tmod ((k : Nat) : Int) (2 : Int) == (0 : Int))), (24, .int .i64 (Int.tmod ((k : Nat) : Int) (2 : Int))), (23, .int .i64 ((k : Nat) : Int)), (22, .int .i64 (((digs s.data.toList).getD ((digs s.data.toList).length - 1 - k) 0 : Nat) : Int)), (21, .int .u8 (IntKind.u8.wrap (((b.toNat : Nat) : Int) - 48))), (20, .int .u8 ((b.toNat : Nat) : Int)), (19, .int .i64 ((((digs s.data.toList).length - 1 - k) : Nat) : Int)), (18, .int .i64 ((k : Nat) : Int)), (17, .int .i64 (IntKind.i64.wrap ((((digs s.data.toList).length : Nat) : Int) - 1))), (16, .int .i64 (((digs s.data.toList).length : Nat) : Int)), (15, .string (⟨(expL s.data.toList).toArray⟩ : ByteArray)), (14, .string (⟨(expL s.data.toList).toArray⟩ : ByteArray)), (5, .int .i64 ((k : Nat) : Int)), (13, .int .i64 ((k : Nat) : Int)), (12, .bool (decide (((k : Nat) : Int) < (((digs s.data.toList).length : Nat) : Int)))), (3, .string (⟨(expL s.data.toList).toArray⟩ : ByteArray)), (10, .int .i64 (((digs s.data.toList).length : Nat) : Int)), (11, .int .i64 ((k : Nat) : Int)), (4, .int .i64 ((lSum (digs s.data.toList) k : Nat) : Int))] ⟨rfl, rfl, rfl, rfl, rfl, rfl, rfl, rfl, rfl, rfl, rfl, rfl, rfl, rfl, rfl, rfl, rfl, rfl, rfl, rfl, rfl, rfl, trivial⟩
      clear h72
      refine then_n ?_
      refine reg_plain [(0, false), (1, false), (2, false), (3, false), (4, false), (5, false), (6, false), (7, false)] (by kernel_rfl) (by kernel_rfl) ?_
      refine eE 0 28 (.move (.tmp 4)) 3 (.int .i64 ((lSum (digs s.data.toList) k : Nat) : Int)) h73 fun q74 h75 => ?_
      clear h73
      refine eE 1 29 (.move (.tmp 6)) 3 (.int .i64 (IntKind.i64.wrap ((((digs s.data.toList).getD ((digs s.data.toList).length - 1 - k) 0 : Nat) : Int) * 2))) h75 fun q76 h77 => ?_
      clear h75
      refine eE 2 30 (.binOp .quo 3 (.tmp 29) (.const (.int .i64 10)) 3) 3 (.int .i64 (IntKind.i64.wrap (Int.tdiv (IntKind.i64.wrap ((((digs s.data.toList).getD ((digs s.data.toList).length - 1 - k) 0 : Nat) : Int) * 2)) (10 : Int)))) h77 fun q78 h79 => ?_
      clear h77
      refine eE 3 31 (.move (.tmp 6)) 3 (.int .i64 (IntKind.i64.wrap ((((digs s.data.toList).getD ((digs s.data.toList).length - 1 - k) 0 : Nat) : Int) * 2))) h79 fun q80 h81 => ?_
      clear h79
      refine eE 4 32 (.binOp .rem 3 (.tmp 31) (.const (.int .i64 10)) 3) 3 (.int .i64 (Int.tmod (IntKind.i64.wrap ((((digs s.data.toList).getD ((digs s.data.toList).length - 1 - k) 0 : Nat) : Int) * 2)) (10 : Int))) h81 fun q82 h83 => ?_
      clear h81
      refine eE 5 33 (.binOp .add 3 (.tmp 30) (.tmp 32) 3) 3 (.int .i64 (IntKind.i64.wrap ((IntKind.i64.wrap (Int.tdiv (IntKind.i64.wrap ((((digs s.data.toList).getD ((digs s.data.toList).length - 1 - k) 0 : Nat) : Int) * 2)) (10 : Int))) + (Int.tmod (IntKind.i64.wrap ((((digs s.data.toList).getD ((digs s.data.toList).length - 1 - k) 0 : Nat) : Int) * 2)) (10 : Int))))) h83 fun q84 h85 => ?_
      clear h83
      refine eE 6 34 (.binOp .add 3 (.tmp 28) (.tmp 33) 3) 3 (.int .i64 (IntKind.i64.wrap (((lSum (digs s.data.toList) k : Nat) : Int) + (IntKind.i64.wrap ((IntKind.i64.wrap (Int.tdiv (IntKind.i64.wrap ((((digs s.data.toList).getD ((digs s.data.toList).length - 1 - k) 0 : Nat) : Int) * 2)) (10 : Int))) + (Int.tmod (IntKind.i64.wrap ((((digs s.data.toList).getD ((digs s.data.toList).length - 1 - k) 0 : Nat) : Int) * 2)) (10 : Int))))))) h85 fun q86 h87 => ?_
      clear h85
      refine eE 7 4 (.assign (.tmp 34)) 3 (.int .i64 (IntKind.i64.wrap (((lSum (digs s.data.toList) k : Nat) : Int) + (IntKind.i64.wrap ((IntKind.i64.wrap (Int.tdiv (IntKind.i64.wrap ((((digs s.data.toList).getD ((digs s.data.toList).length - 1 - k) 0 : Nat) : Int) * 2)) (10 : Int))) + (Int.tmod (IntKind.i64.wrap ((((digs s.data.toList).getD ((digs s.data.toList).length - 1 - k) 0 : Nat) : Int) * 2)) (10 : Int))))))) h87 fun q88 h89 => ?_
      clear h87
      refine wpO_end ?_
      have h90 := h89.keep [(4, .int .i64 (IntKind.i64.wrap (((lSum (digs s.data.toList) k : Nat) : Int) + (IntKind.i64.wrap ((IntKind.i64.wrap (Int.tdiv (IntKind.i64.wrap ((((digs s.data.toList).getD ((digs s.data.toList).length - 1 - k) 0 : Nat) : Int) * 2)) (10 : Int))) + (Int.tmod (IntKind.i64.wrap ((((digs s.data.toList).getD ((digs s.data.toList).length - 1 - k) 0 : Nat) : Int) * 2)) (10 : Int))))))), (34, .int .i64 (IntKind.i64.wrap (((lSum (digs s.data.toList) k : Nat) : Int) + (IntKind.i64.wrap ((IntKind.i64.wrap (Int.tdiv (IntKind.i64.wrap ((((digs s.data.toList).getD ((digs s.data.toList).length - 1 - k) 0 : Nat) : Int) * 2)) (10 : Int))) + (Int.tmod (IntKind.i64.wrap ((((digs s.data.toList).getD ((digs s.data.toList).length - 1 - k) 0 : Nat) : Int) * 2)) (10 : Int))))))), (33, .int .i64 (IntKind.i64.wrap ((IntKind.i64.wrap (Int.tdiv (IntKind.i64.wrap ((((digs s.data.toList).getD ((digs s.data.toList).length - 1 - k) 0 : Nat) : Int) * 2)) (10 : Int))) + (Int.tmod (IntKind.i64.wrap ((((digs s.data.toList).getD ((digs s.data.toList).length - 1 - k) 0 : Nat) : Int) * 2)) (10 : Int))))), (32, .int .i64 (Int.tmod (IntKind.i64.wrap ((((digs s.data.toList).getD ((digs s.data.toList).length - 1 - k) 0 : Nat) : Int) * 2)) (10 : Int))), (31, .int .i64 (IntKind.i64.wrap ((((digs s.data.toList).getD ((digs s.data.toList).length - 1 - k) 0 : Nat) : Int) * 2))), (30, .int .i64 (IntKind.i64.wrap (Int.tdiv (IntKind.i64.wrap ((((digs s.data.toList).getD ((digs s.data.toList).length - 1 - k) 0 : Nat) : Int) * 2)) (10 : Int)))), (29, .int .i64 (IntKind.i64.wrap ((((digs s.data.toList).getD ((digs s.data.toList).length - 1 - k) 0 : Nat) : Int) * 2))), (28, .int .i64 ((lSum (digs s.data.toList) k : Nat) : Int)), (6, .int .i64 (IntKind.i64.wrap ((((digs s.data.toList).getD ((digs s.data.toList).length - 1 - k) 0 : Nat) : Int) * 2))), (27, .int .i64 (IntKind.i64.wrap ((((digs s.data.toList).getD ((digs s.data.toList).length - 1 - k) 0 : Nat) : Int) * 2))), (26, .int .i64 (((digs s.data.toList).getD ((digs s.data.toList).length - 1 - k) 0 : Nat) : Int)), (25, .bool (Int.tmod ((k : Nat) : Int) (2 : Int) == (0 : Int))), (24, .int .i64 (Int.tmod ((k : Nat) : Int) (2 : Int))), (23, .int .i64 ((k : Nat) : Int)), (22, .int .i64 (((digs s.data.toList).getD ((digs s.data.toList).length - 1 - k) 0 : Nat) : Int)), (21, .int .u8 (IntKind.u8.wrap (((b.toNat : Nat) : Int) - 48))), (20, .int .u8 ((b.toNat : Nat) : Int)), (19, .int .i64 ((((digs s.data.toList).length - 1 - k) : Nat) : Int)), (18, .int .i64 ((k : Nat) : Int)), (17, .int .i64 (IntKind.i64.wrap ((((digs s.data.toList).length : Nat) : Int) - 1))), (16, .int .i64 (((digs s.data.toList).length : Nat) : Int)), (15, .string (⟨(expL s.data.toList).toArray⟩ : ByteArray)), (14, .string (⟨(expL s.data.toList).toArray⟩ : ByteArray)), (5, .int .i64 ((k : Nat) : Int)), (13, .int .i64 ((k : Nat) : Int)), (12, .bool (decide (((k : Nat) : Int) < (((digs s.data.toList).length : Nat) : Int)))), (3, .string (⟨(expL s.data.toList).toArray⟩ : ByteArray)), (10, .int .i64 (((digs s.data.toList).length : Nat) : Int)), (11, .int .i64 ((k : Nat) : Int))] ⟨rfl, rfl, rfl, rfl, rfl, rfl, rfl, rfl, rfl, rfl, rfl, rfl, rfl, rfl, rfl, rfl, rfl, rfl, rfl, rfl, rfl, rfl, rfl, rfl, rfl, rfl, rfl, rfl, rfl, trivial⟩
      clear h89
      refine inB_n ?_
      refine then_n ?_
      refine reg_plain [(0, false), (1, false)] (by kernel_rfl) (by kernel_rfl) ?_
      refine eE 0 35 (.binOp .add 3 (.tmp 11) (.const (.int .i64 1)) 3) 3 (.int .i64 (IntKind.i64.wrap (((k : Nat) : Int) + 1))) h90 fun q91 h92 => ?_
      clear h90
      refine eE 1 11 (.move (.tmp 35)) 3 (.int .i64 (IntKind.i64.wrap (((k : Nat) : Int) + 1))) h92 fun q93 h94 => ?_
      clear h92
      refine wpO_end ?_
      have h95 := h94.keep [(11, .int .i64 (IntKind.i64.wrap (((k : Nat) : Int) + 1))), (35, .int .i64 (IntKind.i64.wrap (((k : Nat) : Int) + 1))), (4, .int .i64 (IntKind.i64.wrap (((lSum (digs s.data.toList) k : Nat) : Int) + (IntKind.i64.wrap ((IntKind.i64.wrap (Int.tdiv (IntKind.i64.wrap ((((digs s.data.toList).getD ((digs s.data.toList).length - 1 - k) 0 : Nat) : Int) * 2)) (10 : Int))) + (Int.tmod (IntKind.i64.wrap ((((digs s.data.toList).getD ((digs s.data.toList).length - 1 - k) 0 : Nat) : Int) * 2)) (10 : Int))))))), (34, .int .i64 (IntKind.i64.wrap (((lSum (digs s.data.toList) k : Nat) : Int) + (IntKind.i64.wrap ((IntKind.i64.wrap (Int.tdiv (IntKind.i64.wrap ((((digs s.data.toList).getD ((digs s.data.toList).length - 1 - k) 0 : Nat) : Int) * 2)) (10 : Int))) + (Int.tmod (IntKind.i64.wrap ((((digs s.data.toList).getD ((digs s.data.toList).length - 1 - k) 0 : Nat) : Int) * 2)) (10 : Int))))))), (33, .int .i64 (IntKind.i64.wrap ((IntKind.i64.wrap (Int.tdiv (IntKind.i64.wrap ((((digs s.data.toList).getD ((digs s.data.toList).length - 1 - k) 0 : Nat) : Int) * 2)) (10 : Int))) + (Int.tmod (IntKind.i64.wrap ((((digs s.data.toList).getD ((digs s.data.toList).length - 1 - k) 0 : Nat) : Int) * 2)) (10 : Int))))), (32, .int .i64 (Int.tmod (IntKind.i64.wrap ((((digs s.data.toList).getD ((digs s.data.toList).length - 1 - k) 0 : Nat) : Int) * 2)) (10 : Int))), (31, .int .i64 (IntKind.i64.wrap ((((digs s.data.toList).getD ((digs s.data.toList).length - 1 - k) 0 : Nat) : Int) * 2))), (30, .int .i64 (IntKind.i64.wrap (Int.tdiv (IntKind.i64.wrap ((((digs s.data.toList).getD ((digs s.data.toList).length - 1 - k) 0 : Nat) : Int) * 2)) (10 : Int)))), (29, .int .i64 (IntKind.i64.wrap ((((digs s.data.toList).getD ((digs s.data.toList).length - 1 - k) 0 : Nat) : Int) * 2))), (28, .int .i64 ((lSum (digs s.data.toList) k : Nat) : Int)), (6, .int .i64 (IntKind.i64.wrap ((((digs s.data.toList).getD ((digs s.data.toList).length - 1 - k) 0 : Nat) : Int) * 2))), (27, .int .i64 (IntKind.i64.wrap ((((digs s.data.toList).getD ((digs s.data.toList).length - 1 - k) 0 : Nat) : Int) * 2))), (26, .int .i64 (((digs s.data.toList).getD ((digs s.data.toList).length - 1 - k) 0 : Nat) : Int)), (25, .bool (Int.tmod ((k : Nat) : Int) (2 : Int) == (0 : Int))), (24, .int .i64 (Int.tmod ((k : Nat) : Int) (2 : Int))), (23, .int .i64 ((k : Nat) : Int)), (22, .int .i64 (((digs s.data.toList).getD ((digs s.data.toList).length - 1 - k) 0 : Nat) : Int)), (21, .int .u8 (IntKind.u8.wrap (((b.toNat : Nat) : Int) - 48))), (20, .int .u8 ((b.toNat : Nat) : Int)), (19, .int .i64 ((((digs s.data.toList).length - 1 - k) : Nat) : Int)), (18, .int .i64 ((k : Nat) : Int)), (17, .int .i64 (IntKind.i64.wrap ((((digs s.data.toList).length : Nat) : Int) - 1))), (16, .int .i64 (((digs s.data.toList).length : Nat) : Int)), (15, .string (⟨(expL s.data.toList).toArray⟩ : ByteArray)), (14, .string (⟨(expL s.data.toList).toArray⟩ : ByteArray)), (5, .int .i64 ((k : Nat) : Int)), (13, .int .i64 ((k : Nat) : Int)), (12, .bool (decide (((k : Nat) : Int) < (((digs s.data.toList).length : Nat) : Int)))), (3, .string (⟨(expL s.data.toList).toArray⟩ : ByteArray)), (10, .int .i64 (((digs s.data.toList).length : Nat) : Int))] ⟨rfl, rfl, rfl, rfl, rfl, rfl, rfl, rfl, rfl, rfl, rfl, rfl, rfl, rfl, rfl, rfl, rfl, rfl, rfl, rfl, rfl, rfl, rfl, rfl, rfl, rfl, rfl, rfl, rfl, rfl, trivial⟩
      clear h94
      have h96 := h95.keep [(3, .string (⟨(expL s.data.toList).toArray⟩ : ByteArray)), (10, .int .i64 (((digs s.data.toList).length : Nat) : Int)), (11, .int .i64 (((k + 1) : Nat) : Int)), (4, .int .i64 ((lSum (digs s.data.toList) (k + 1) : Nat) : Int))] ⟨rfl, rfl, look_int rfl (wrap_succ (by have := hlen; have := hxl; omega)), look_int rfl (l_round k _ _ (IntKind.i64.wrap ((((digs s.data.toList).getD ((digs s.data.toList).length - 1 - k) 0 : Nat) : Int) * 2)) ⟨fun _ => (by rw [wrap_i64 (by omega) (by omega)]; omega), fun hh => absurd (by simpa using hpar) hh⟩ hd hS (by have := hlen; have := hxl; omega)), trivial⟩
      have hm97 := h96.int (k := 11) (kd := .i64) (z := (((k + 1) : Nat) : Int)) rfl
      refine then_n ⟨⟨k + 1, by omega, h96, hB26⟩, ?_⟩
      show ((((digs s.data.toList).length : Int)) - intAt _ 11).toNat < ((((digs s.data.toList).length : Int)) - intAt _ 11).toNat
      rw [hm28, hm97]; omega
    ·
      have hpar := hc66
      rw [par_eq] at hpar
      refine c_skip (by kernel_rfl) ?_
      refine then_n ?_
      refine reg_plain [(0, false), (1, false), (2, false), (3, false), (4, false), (5, false), (6, false), (7, false)] (by kernel_rfl) (by kernel_rfl) ?_
      refine eE 0 28 (.move (.tmp 4)) 3 (.int .i64 ((lSum (digs s.data.toList) k : Nat) : Int)) h65 fun q98 h99 => ?_
      clear h65
      refine eE 1 29 (.move (.tmp 6)) 3 (.int .i64 (((digs s.data.toList).getD ((digs s.data.toList).length - 1 - k) 0 : Nat) : Int)) h99 fun q100 h101 => ?_
      clear h99
      refine eE 2 30 (.binOp .quo 3 (.tmp 29) (.const (.int .i64 10)) 3) 3 (.int .i64 (IntKind.i64.wrap (Int.tdiv (((digs s.data.toList).getD ((digs s.data.toList).length - 1 - k) 0 : Nat) : Int) (10 : Int)))) h101 fun q102 h103 => ?_
      clear h101
      refine eE 3 31 (.move (.tmp 6)) 3 (.int .i64 (((digs s.data.toList).getD ((digs s.data.toList).length - 1 - k) 0 : Nat) : Int)) h103 fun q104 h105 => ?_
      clear h103
      refine eE 4 32 (.binOp .rem 3 (.tmp 31) (.const (.int .i64 10)) 3) 3 (.int .i64 (Int.tmod (((digs s.data.toList).getD ((digs s.data.toList).length - 1 - k) 0 : Nat) : Int) (10 : Int))) h105 fun q106 h107 => ?_
      clear h105
      refine eE 5 33 (.binOp .add 3 (.tmp 30) (.tmp 32) 3) 3 (.int .i64 (IntKind.i64.wrap ((IntKind.i64.wrap (Int.tdiv (((digs s.data.toList).getD ((digs s.data.toList).length - 1 - k) 0 : Nat) : Int) (10 : Int))) + (Int.tmod (((digs s.data.toList).getD ((digs s.data.toList).length - 1 - k) 0 : Nat) : Int) (10 : Int))))) h107 fun q108 h109 => ?_
      clear h107
      refine eE 6 34 (.binOp .add 3 (.tmp 28) (.tmp 33) 3) 3 (.int .i64 (IntKind.i64.wrap (((lSum (digs s.data.toList) k : Nat) : Int) + (IntKind.i64.wrap ((IntKind.i64.wrap (Int.tdiv (((digs s.data.toList).getD ((digs s.data.toList).length - 1 - k) 0 : Nat) : Int) (10 : Int))) + (Int.tmod (((digs s.data.toList).getD ((digs s.data.toList).length - 1 - k) 0 : Nat) : Int) (10 : Int))))))) h109 fun q110 h111 => ?_
      clear h109
      refine eE 7 4 (.assign (.tmp 34)) 3 (.int .i64 (IntKind.i64.wrap (((lSum (digs s.data.toList) k : Nat) : Int) + (IntKind.i64.wrap ((IntKind.i64.wrap (Int.tdiv (((digs s.data.toList).getD ((digs s.data.toList).length - 1 - k) 0 : Nat) : Int) (10 : Int))) + (Int.tmod (((digs s.data.toList).getD ((digs s.data.toList).length - 1 - k) 0 : Nat) : Int) (10 : Int))))))) h111 fun q112 h113 => ?_
      clear h111
      refine wpO_end ?_
      have h114 := h113.keep [(4, .int .i64 (IntKind.i64.wrap (((lSum (digs s.data.toList) k : Nat) : Int) + (IntKind.i64.wrap ((IntKind.i64.wrap (Int.tdiv (((digs s.data.toList).getD ((digs s.data.toList).length - 1 - k) 0 : Nat) : Int) (10 : Int))) + (Int.tmod (((digs s.data.toList).getD ((digs s.data.toList).length - 1 - k) 0 : Nat) : Int) (10 : Int))))))), (34, .int .i64 (IntKind.i64.wrap (((lSum (digs s.data.toList) k : Nat) : Int) + (IntKind.i64.wrap ((IntKind.i64.wrap (Int.tdiv (((digs s.data.toList).getD ((digs s.data.toList).length - 1 - k) 0 : Nat) : Int) (10 : Int))) + (Int.tmod (((digs s.data.toList).getD ((digs s.data.toList).length - 1 - k) 0 : Nat) : Int) (10 : Int))))))), (33, .int .i64 (IntKind.i64.wrap ((IntKind.i64.wrap (Int.tdiv (((digs s.data.toList).getD ((digs s.data.toList).length - 1 - k) 0 : Nat) : Int) (10 : Int))) + (Int.tmod (((digs s.data.toList).getD ((digs s.data.toList).length - 1 - k) 0 : Nat) : Int) (10 : Int))))), (32, .int .i64 (Int.tmod (((digs s.data.toList).getD ((digs s.data.toList).length - 1 - k) 0 : Nat) : Int) (10 : Int))), (31, .int .i64 (((digs s.data.toList).getD ((digs s.data.toList).length - 1 - k) 0 : Nat) : Int)), (30, .int .i64 (IntKind.i64.wrap (Int.tdiv (((digs s.data.toList).getD ((digs s.data.toList).length - 1 - k) 0 : Nat) : Int) (10 : Int)))), (29, .int .i64 (((digs s.data.toList).getD ((digs s.data.toList).length - 1 - k) 0 : Nat) : Int)), (28, .int .i64 ((lSum (digs s.data.toList) k : Nat) : Int)), (25, .bool (Int.tmod ((k : Nat) : Int) (2 : Int) == (0 : Int))), (24, .int .i64 (Int.tmod ((k : Nat) : Int) (2 : Int))), (23, .int .i64 ((k : Nat) : Int)), (6, .int .i64 (((digs s.data.toList).getD ((digs s.data.toList).length - 1 - k) 0 : Nat) : Int)), (22, .int .i64 (((digs s.data.toList).getD ((digs s.data.toList).length - 1 - k) 0 : Nat) : Int)), (21, .int .u8 (IntKind.u8.wrap (((b.toNat : Nat) : Int) - 48))), (20, .int .u8 ((b.toNat : Nat) : Int)), (19, .int .i64 ((((digs s.data.toList).length - 1 - k) : Nat) : Int)), (18, .int .i64 ((k : Nat) : Int)), (17, .int .i64 (IntKind.i64.wrap ((((digs s.data.toList).length : Nat) : Int) - 1))), (16, .int .i64 (((digs s.data.toList).length : Nat) : Int)), (15, .string (⟨(expL s.data.toList).toArray⟩ : ByteArray)), (14, .string (⟨(expL s.data.toList).toArray⟩ : ByteArray)), (5, .int .i64 ((k : Nat) : Int)), (13, .int .i64 ((k : Nat) : Int)), (12, .bool (decide (((k : Nat) : Int) < (((digs s.data.toList).length : Nat) : Int)))), (3, .string (⟨(expL s.data.toList).toArray⟩ : ByteArray)), (10, .int .i64 (((digs s.data.toList).length : Nat) : Int)), (11, .int .i64 ((k : Nat) : Int))] ⟨rfl, rfl, rfl, rfl, rfl, rfl, rfl, rfl, rfl, rfl, rfl, rfl, rfl, rfl, rfl, rfl, rfl, rfl, rfl, rfl, rfl, rfl, rfl, rfl, rfl, rfl, rfl, trivial⟩
      clear h113
      refine inB_n ?_
      refine then_n ?_
      refine reg_plain [(0, false), (1, false)] (by kernel_rfl) (by kernel_rfl) ?_
      refine eE 0 35 (.binOp .add 3 (.tmp 11) (.const (.int .i64 1)) 3) 3 (.int .i64 (IntKind.i64.wrap (((k : Nat) : Int) + 1))) h114 fun q115 h116 => ?_
      clear h114
      refine eE 1 11 (.move (.tmp 35)) 3 (.int .i64 (IntKind.i64.wrap (((k : Nat) : Int) + 1))) h116 fun q117 h118 => ?_
      clear h116
      refine wpO_end ?_
      have h119 := h118.keep [(11, .int .i64 (IntKind.i64.wrap (((k : Nat) : Int) + 1))), (35, .int .i64 (IntKind.i64.wrap (((k : Nat) : Int) + 1))), (4, .int .i64 (IntKind.i64.wrap (((lSum (digs s.data.toList) k : Nat) : Int) + (IntKind.i64.wrap ((IntKind.i64.wrap (Int.tdiv (((digs s.data.toList).getD ((digs s.data.toList).length - 1 - k) 0 : Nat) : Int) (10 : Int))) + (Int.tmod (((digs s.data.toList).getD ((digs s.data.toList).length - 1 - k) 0 : Nat) : Int) (10 : Int))))))), (34, .int .i64 (IntKind.i64.wrap (((lSum (digs s.data.toList) k : Nat) : Int) + (IntKind.i64.wrap ((IntKind.i64.wrap (Int.tdiv (((digs s.data.toList).getD ((digs s.data.toList).length - 1 - k) 0 : Nat) : Int) (10 : Int))) + (Int.tmod (((digs s.data.toList).getD ((digs s.data.toList).length - 1 - k) 0 : Nat) : Int) (10 : Int))))))), (33, .int .i64 (IntKind.i64.wrap ((IntKind.i64.wrap (Int.tdiv (((digs s.data.toList).getD ((digs s.data.toList).length - 1 - k) 0 : Nat) : Int) (10 : Int))) + (Int.tmod (((digs s.data.toList).getD ((digs s.data.toList).length - 1 - k) 0 : Nat) : Int) (10 : Int))))), (32, .int .i64 (Int.tmod (((digs s.data.toList).getD ((digs s.data.toList).length - 1 - k) 0 : Nat) : Int) (10 : Int))), (31, .int .i64 (((digs s.data.toList).getD ((digs s.data.toList).length - 1 - k) 0 : Nat) : Int)), (30, .int .i64 (IntKind.i64.wrap (Int.tdiv (((digs s.data.toList).getD ((digs s.data.toList).length - 1 - k) 0 : Nat) : Int) (10 : Int)))), (29, .int .i64 (((digs s.data.toList).getD ((digs s.data.toList).length - 1 - k) 0 : Nat) : Int)), (28, .int .i64 ((lSum (digs s.data.toList) k : Nat) : Int)), (25, .bool (Int.tmod ((k : Nat) : Int) (2 : Int) == (0 : Int))), (24, .int .i64 (Int.tmod ((k : Nat) : Int) (2 : Int))), (23, .int .i64 ((k : Nat) : Int)), (6, .int .i64 (((digs s.data.toList).getD ((digs s.data.toList).length - 1 - k) 0 : Nat) : Int)), (22, .int .i64 (((digs s.data.toList).getD ((digs s.data.toList).length - 1 - k) 0 : Nat) : Int)), (21, .int .u8 (IntKind.u8.wrap (((b.toNat : Nat) : Int) - 48))), (20, .int .u8 ((b.toNat : Nat) : Int)), (19, .int .i64 ((((digs s.data.toList).length - 1 - k) : Nat) : Int)), (18, .int .i64 ((k : Nat) : Int)), (17, .int .i64 (IntKind.i64.wrap ((((digs s.data.toList).length : Nat) : Int) - 1))), (16, .int .i64 (((digs s.data.toList).length : Nat) : Int)), (15, .string (⟨(expL s.data.toList).toArray⟩ : ByteArray)), (14, .string (⟨(expL s.data.toList).toArray⟩ : ByteArray)), (5, .int .i64 ((k : Nat) : Int)), (13, .int .i64 ((k : Nat) : Int)), (12, .bool (decide (((k : Nat) : Int) < (((digs s.data.toList).length : Nat) : Int)))), (3, .string (⟨(expL s.data.toList).toArray⟩ : ByteArray)), (10, .int .i64 (((digs s.data.toList).length : Nat) : Int))] ⟨rfl, rfl, rfl, rfl, rfl, rfl, rfl, rfl, rfl, rfl, rfl, rfl, rfl, rfl, rfl, rfl, rfl, rfl, rfl, rfl, rfl, rfl, rfl, rfl, rfl, rfl, rfl, rfl, trivial⟩
      clear h118
      have h120 := h119.keep [(3, .string (⟨(expL s.data.toList).toArray⟩ : ByteArray)), (10, .int .i64 (((digs s.data.toList).length : Nat) : Int)), (11, .int .i64 (((k + 1) : Nat) : Int)), (4, .int .i64 ((lSum (digs s.data.toList) (k + 1) : Nat) : Int))] ⟨rfl, rfl, look_int rfl (wrap_succ (by have := hlen; have := hxl; omega)), look_int rfl (l_round k _ _ ((((digs s.data.toList).getD ((digs s.data.toList).length - 1 - k) 0 : Nat) : Int)) ⟨fun hh => (by rw [hh] at hpar; cases hpar), fun _ => rfl⟩ hd hS (by have := hlen; have := hxl; omega)), trivial⟩
      have hm121 := h120.int (k := 11) (kd := .i64) (z := (((k + 1) : Nat) : Int)) rfl
      refine then_n ⟨⟨k + 1, by omega, h120, hB26⟩, ?_⟩
      show ((((digs s.data.toList).length : Int)) - intAt _ 11).toNat < ((((digs s.data.toList).length : Int)) - intAt _ 11).toNat
      rw [hm28, hm121]; omega
  ·
    have hp122 : ¬ (((k : Nat) : Int) < (((digs s.data.toList).length : Nat) : Int)) := of_decide_eq_false hc31
    obtain rfl : k = (digs s.data.toList).length := by omega
    refine c_exit 0 (by kernel_rfl) ?_
    refine then_e (then_e (inB_hit ?_))
    refine then_n ?_
    refine c_seq (by kernel_rfl) ?_
    refine reg_plain [(0, false), (1, false), (2, false), (3, false), (4, false), (5, false)] (by kernel_rfl) (by kernel_rfl) ?_
    refine eE 0 36 (.move (.tmp 4)) 3 (.int .i64 ((lSum (digs s.data.toList) (digs s.data.toList).length : Nat) : Int)) h30 fun q123 h124 => ?_
    clear h30
    refine eE 1 37 (.binOp .rem 3 (.tmp 36) (.const (.int .i64 10)) 3) 3 (.int .i64 (Int.tmod ((lSum (digs s.data.toList) (digs s.data.toList).length : Nat) : Int) (10 : Int))) h124 fun q125 h126 => ?_
    clear h124
    refine eE 2 38 (.binOp .sub 3 (.const (.int .i64 10)) (.tmp 37) 3) 3 (.int .i64 (IntKind.i64.wrap (10 - (Int.tmod ((lSum (digs s.data.toList) (digs s.data.toList).length : Nat) : Int) (10 : Int))))) h126 fun q127 h128 => ?_
    clear h126
    refine eE 3 39 (.binOp .rem 3 (.tmp 38) (.const (.int .i64 10)) 3) 3 (.int .i64 (Int.tmod (IntKind.i64.wrap (10 - (Int.tmod ((lSum (digs s.data.toList) (digs s.data.toList).length : Nat) : Int) (10 : Int)))) (10 : Int))) h128 fun q129 h130 => ?_
    clear h128
    have h131 := h130.keep [(39, .int .i64 ((luhnD s.data.toList : Nat) : Int)), (38, .int .i64 (IntKind.i64.wrap (10 - (Int.tmod ((lSum (digs s.data.toList) (digs s.data.toList).length : Nat) : Int) (10 : Int))))), (37, .int .i64 (Int.tmod ((lSum (digs s.data.toList) (digs s.data.toList).length : Nat) : Int) (10 : Int))), (36, .int .i64 ((lSum (digs s.data.toList) (digs s.data.toList).length : Nat) : Int)), (12, .bool (decide ((((digs s.data.toList).length : Nat) : Int) < (((digs s.data.toList).length : Nat) : Int)))), (3, .string (⟨(expL s.data.toList).toArray⟩ : ByteArray)), (10, .int .i64 (((digs s.data.toList).length : Nat) : Int)), (11, .int .i64 (((digs s.data.toList).length : Nat) : Int)), (4, .int .i64 ((lSum (digs s.data.toList) (digs s.data.toList).length : Nat) : Int))] ⟨look_int rfl (luhn_end _ (by have := hlen; have := hxl; omega)), rfl, rfl, rfl, rfl, rfl, rfl, rfl, rfl, trivial⟩
    clear h130
    refine stC (i := 4) (d := 40) (op := Op.call { callee := Callee.value (Operand.func 101), args := #[Operand.tmp 39], argTypes := #[3] }) (ty := 9) (g := none) (f := 101) (args := #[.int .i64 ((luhnD s.data.toList : Nat) : Int)]) (w1 := w24) h131 (by kernel_rfl) (by kernel_rfl) (by kernel_rfl) gok_none (by kernel_rfl) (c101 (luhnD s.data.toList) (Nat.lt_of_lt_of_le (luhnD_lt _) (by omega)) w24) ?_
    rintro _ w134 ⟨rfl, hb135⟩
    have hB136 := hB26.call hb135
    refine ⟨_, rfl, trivial, fun q132 h133 => ?_⟩
    clear h131 hB26 hb135
    refine eE 5 2 (.assign (.tmp 40)) 9 (.string (⟨(Lib.decDigits (luhnD s.data.toList)).toArray⟩ : ByteArray)) h133 fun q137 h138 => ?_
    clear h133
    refine wpO_end ?_
    have h139 := h138.keep [(2, .string (⟨(Lib.decDigits (luhnD s.data.toList)).toArray⟩ : ByteArray))] ⟨rfl, trivial⟩
    clear h138
    refine then_n ?_
    refine c_ret (by kernel_rfl) ?_
    refine ret1 (t := 2) (v := .string (⟨(Lib.decDigits (luhnD s.data.toList)).toArray⟩ : ByteArray)) h139 (by kernel_rfl) (by kernel_rfl) ?_
    exact ⟨by rw [decDigits_one _ (luhnD_lt _)], hB136.bel⟩

end Go.Proofs.YtljegdokbifoiaaDoor.Af
